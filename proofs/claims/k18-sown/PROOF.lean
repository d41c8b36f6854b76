import PyProof.Rows.All
import Wide.All
import OpenK.AllK
import Wide.FinOn
import HandS.ForMost
import HandS.Exc
import HandS.TryMany
import HandS.WordsExc
import HandS.Lambda
import HandS.CallSlots
import HandS.TupAny
import PyProof.Rows.SeqMore
import HandS.Text
import KE.GoesEnum
import HandS.HeadHook4
import HandS.HeadEnd
import HandS.Head2
import HandS.GenList
import HandS.Dict
import HandS.DictComp
import HandS.TupLen
import HandS.SortInts
import HandS.Conv
import PyProof.TupleOfSeq
import HandS.Deep
import HandS.Style
import HandS.HeadWalk
import KE.KNestM
import HandS.NestedK
import PySem.Challenge.RW_blazonhall_k18_sown_and_between
set_option Elab.async false
set_option linter.all false
set_option maxRecDepth 100000
set_option maxHeartbeats 0
/-! Own layer, part A: clean values, the clean heap, how they stand for the values of the hand layer. -/
namespace Bl
open PySem PySem.Spec PyProof.Rows L2

/-- a clean value: tuples, frozen lists, dicts, instances are trees; wtp: a tuple that may be of the written part; wdc: the i-th written dict; ref n: the n-th object of the clean heap -/
inductive CV where
  | non | bl (b : Bool) | int (i : Int) | str (s : List Nat)
  | tup (xs : List CV) | wtp (xs : List CV) | wdc (i : Nat) | lst (xs : List CV) | dct (t : Bool) (kvs : List (CV × CV)) | ins (c : Nat) (fs : List (Nat × CV)) | ref (n : Nat)
/-- a clean object -/
inductive CO where
  | lst (xs : List CV) | dic (t : Bool) (kvs : List (CV × CV)) | ins (c : Nat) (fs : List (Nat × CV))
/-- the clean heap: the floor, the objects, oldest first -/
structure Hc where
  fl : Nat
  os : List CO
inductive R (α : Type) where
  | ok (a : α) (h : Hc) | exc (c : Nat) (fs : List (Nat × CV)) (h : Hc) | stuck
def R.bind {α β : Type} (r : R α) (f : α → Hc → R β) : R β := match r with
  | .ok a h => f a h
  | .exc c fs h => .exc c fs h
  | .stuck => .stuck
abbrev En := List (Option CV)

/-- what is fixed: the written part, the classes' addresses, the fields' names -/
structure Gx where
  K : PySem.W.Frag
  cl : Nat → Addr
  fn : Nat → Str
  wd : Nat → Addr
  T : List (Addr × Str)

/-- where the clean heap's objects stand; those below b: the callers', of which nothing is said but that they stay -/
structure Rh where
  b : Nat
  f : Nat → Addr
instance : CoeFun Rh fun _ => Nat → Addr := ⟨fun ρ i => ρ.f (ρ.b + i)⟩
def Own (ρ : Rh) (N : Nat) (a : Addr) : Prop := ∃ i, i < ρ.b + N ∧ ρ.f i = a
/-- read, and not one of the clean heap's -/
def RdU (ρ : Rh) (N : Nat) (H : Hp) (a : Addr) (u : HO) : Prop := ¬ Own ρ N a ∧ Rd H a u
def insU (ρ : Rh) (N : Nat) (H : Hp) (a : Addr) (u : HO) : Prop := ¬ Own ρ N a ∧ H a = some u
def WrL (K : PySem.W.Frag) (a : Addr) (xs : List V) : Prop := ∃ (o : Obj) (its : Array Value) (n : Nat), K.lookup a = some o ∧ o.cls = .type "list" ∧ o.dict = none ∧ o.data = .seq its n ∧ its.size ≤ sizeLine ∧ Vals xs its.toList
def WrT (K : PySem.W.Frag) (a : Addr) (xs : List V) : Prop := ∃ (o : Obj) (its : Array Value) (n : Nat), K.lookup a = some o ∧ o.cls = .type "tuple" ∧ o.data = .seq its n ∧ its.size ≤ sizeLine ∧ Vals xs its.toList

def sOf (s : List Nat) : Str := ⟨s.toArray⟩
def keyC : CV → Option Key
  | .int i => some (.inl i)
  | .str s => some (.inr (sOf s))
  | _ => none
def keysC : List CV → Option (List Key)
  | [] => some []
  | k :: r => match keyC k, keysC r with
    | some a, some b => some (a :: b)
    | _, _ => none
def keyT : CV → Option (List Key)
  | .tup ks => keysC ks
  | _ => none

mutual
/-- v stands for the clean value; m: refs are below it -/
def Rep (Γ : Gx) (ρ : Rh) (N : Nat) (H : Hp) (m : Nat) : CV → V → Prop
  | .non, v => v = .non
  | .bl b, v => v = .bl b
  | .int i, v => v = .int i
  | .str s, v => v = .str (sOf s)
  | .ref n, v => n < m ∧ v = .ref (ρ n)
  | .tup xs, v => ∃ a vs, v = .ref a ∧ insU ρ N H a (.tup vs) ∧ Reps Γ ρ N H m xs vs
  | .wtp xs, v => ∃ a vs, v = .ref a ∧ (insU ρ N H a (.tup vs) ∨ WrT Γ.K a vs) ∧ Reps Γ ρ N H m xs vs
  | .wdc i, v => v = .ref (Γ.wd i)
  | .lst xs, v => ∃ a vs, v = .ref a ∧ (RdU ρ N H a (.lst vs) ∨ WrL Γ.K a vs) ∧ Reps Γ ρ N H 0 xs vs
  | .dct false kvs, v => ∃ a ds, v = .ref a ∧ RdU ρ N H a (.dK ds) ∧ RepK Γ ρ N H 0 kvs ds
  | .dct true kvs, v => ∃ a ds, v = .ref a ∧ RdU ρ N H a (.dT ds) ∧ RepT Γ ρ N H 0 kvs ds
  | .ins c fs, v => ∃ a dx ds, v = .ref a ∧ insU ρ N H a (.ins (Γ.cl c) dx ds) ∧ RepF Γ ρ N H 0 fs ds
def Reps (Γ : Gx) (ρ : Rh) (N : Nat) (H : Hp) (m : Nat) : List CV → List V → Prop
  | [], vs => vs = []
  | x :: xs, vs => ∃ v r, vs = v :: r ∧ Rep Γ ρ N H m x v ∧ Reps Γ ρ N H m xs r
def RepK (Γ : Gx) (ρ : Rh) (N : Nat) (H : Hp) (m : Nat) : List (CV × CV) → List (Key × V) → Prop
  | [], ds => ds = []
  | (k, x) :: r, ds => ∃ k' v r', ds = (k', v) :: r' ∧ keyC k = some k' ∧ Rep Γ ρ N H m x v ∧ RepK Γ ρ N H m r r'
def RepT (Γ : Gx) (ρ : Rh) (N : Nat) (H : Hp) (m : Nat) : List (CV × CV) → List (List Key × V) → Prop
  | [], ds => ds = []
  | (k, x) :: r, ds => ∃ k' v r', ds = (k', v) :: r' ∧ keyT k = some k' ∧ Rep Γ ρ N H m x v ∧ RepT Γ ρ N H m r r'
def RepF (Γ : Gx) (ρ : Rh) (N : Nat) (H : Hp) (m : Nat) : List (Nat × CV) → List (Str × V) → Prop
  | [], ds => ds = []
  | (k, x) :: r, ds => ∃ v r', ds = (Γ.fn k, v) :: r' ∧ Rep Γ ρ N H m x v ∧ RepF Γ ρ N H m r r'
end

/-- kept as it stands where it is not the clean heap's: all but tables -/
def stab : HO → Bool
  | .tbl _ => false
  | _ => true
def InjR (ρ : Rh) (N : Nat) : Prop := ∀ i j, i < ρ.b + N → j < ρ.b + N → ρ.f i = ρ.f j → i = j
/-- from one state to a later one -/
structure Step (ρ : Rh) (N : Nat) (H : Hp) (ρ' : Rh) (N' : Nat) (H' : Hp) : Prop where
  le : N ≤ N'
  base : ρ'.b = ρ.b
  agr : ∀ i, i < ρ.b + N → ρ'.f i = ρ.f i
  hid : InjR ρ' N' → ∀ i u, i < ρ.b → stab u = true → H (ρ.f i) = some u → H' (ρ.f i) = some u
  keep : ∀ a u, stab u = true → RdU ρ N H a u → RdU ρ' N' H' a u
  keepI : ∀ a u, stab u = true → insU ρ N H a u → insU ρ' N' H' a u
theorem Step.agree {ρ N H ρ' N' H'} (st : Step ρ N H ρ' N' H') (i : Nat) (h : i < N) : ρ' i = ρ i := by
  show ρ'.f (ρ'.b + i) = ρ.f (ρ.b + i)
  rw [st.base]
  exact st.agr _ (Nat.add_lt_add_left h _)
theorem Step.refl {ρ N H} : Step ρ N H ρ N H := ⟨Nat.le_refl _, rfl, fun _ _ => rfl, fun _ _ _ _ _ h => h, fun _ _ _ h => h, fun _ _ _ h => h⟩
theorem Step.trans {ρ N H ρ1 N1 H1 ρ2 N2 H2} (a : Step ρ N H ρ1 N1 H1) (b : Step ρ1 N1 H1 ρ2 N2 H2) : Step ρ N H ρ2 N2 H2 := by
  have lt : ∀ i, i < ρ.b + N → i < ρ1.b + N1 := fun i h => by rw [a.base]; exact Nat.lt_of_lt_of_le h (Nat.add_le_add_left a.le _)
  refine ⟨Nat.le_trans a.le b.le, b.base.trans a.base, fun i h => (b.agr i (lt i h)).trans (a.agr i h), fun inj i u h q e => ?_, fun x u q h => b.keep x u q (a.keep x u q h), fun x u q h => b.keepI x u q (a.keepI x u q h)⟩
  have e1 := a.agr i (Nat.lt_of_lt_of_le h (Nat.le_add_right _ _))
  have inj1 : InjR ρ1 N1 := fun x y hx hy e => inj x y (by rw [b.base]; exact Nat.lt_of_lt_of_le hx (Nat.add_le_add_left b.le _)) (by rw [b.base]; exact Nat.lt_of_lt_of_le hy (Nat.add_le_add_left b.le _)) (by rw [b.agr x hx, b.agr y hy]; exact e)
  have z := b.hid inj i u (by rw [a.base]; exact h) q (by rw [e1]; exact a.hid inj1 i u h q e)
  rw [e1] at z
  exact z
section
variable {Γ : Gx} {ρ ρ' : Rh} {N N' : Nat} {H H' : Hp}
mutual
theorem Rep.mono (st : Step ρ N H ρ' N' H') {m m' : Nat} (hm : m ≤ N) (hm' : m ≤ m') : ∀ (x : CV) {v : V}, Rep Γ ρ N H m x v → Rep Γ ρ' N' H' m' x v
  | .non, v, h => by unfold Rep at h ⊢; exact h
  | .bl b, v, h => by unfold Rep at h ⊢; exact h
  | .int i, v, h => by unfold Rep at h ⊢; exact h
  | .str s, v, h => by unfold Rep at h ⊢; exact h
  | .ref n, v, h => by
    unfold Rep at h ⊢
    exact ⟨Nat.lt_of_lt_of_le h.1 hm', by rw [st.agree n (Nat.lt_of_lt_of_le h.1 hm)]; exact h.2⟩
  | .tup xs, v, h => by
    unfold Rep at h ⊢
    obtain ⟨a, vs, e, r, q⟩ := h
    exact ⟨a, vs, e, st.keepI _ _ rfl r, Reps.mono st hm hm' xs q⟩
  | .wtp xs, v, h => by
    unfold Rep at h ⊢
    obtain ⟨a, vs, e, r, q⟩ := h
    exact ⟨a, vs, e, r.imp (st.keepI _ _ rfl) id, Reps.mono st hm hm' xs q⟩
  | .wdc i, v, h => by unfold Rep at h ⊢; exact h
  | .lst xs, v, h => by
    unfold Rep at h ⊢
    obtain ⟨a, vs, e, r, q⟩ := h
    exact ⟨a, vs, e, r.imp (st.keep _ _ rfl) id, Reps.mono st (Nat.zero_le _) (Nat.le_refl 0) xs q⟩
  | .dct false kvs, v, h => by
    unfold Rep at h ⊢
    obtain ⟨a, ds, e, r, q⟩ := h
    exact ⟨a, ds, e, st.keep _ _ rfl r, RepK.mono st (Nat.zero_le _) (Nat.le_refl 0) kvs q⟩
  | .dct true kvs, v, h => by
    unfold Rep at h ⊢
    obtain ⟨a, ds, e, r, q⟩ := h
    exact ⟨a, ds, e, st.keep _ _ rfl r, RepT.mono st (Nat.zero_le _) (Nat.le_refl 0) kvs q⟩
  | .ins c fs, v, h => by
    unfold Rep at h ⊢
    obtain ⟨a, dx, ds, e, r, q⟩ := h
    exact ⟨a, dx, ds, e, st.keepI _ _ rfl r, RepF.mono st (Nat.zero_le _) (Nat.le_refl 0) fs q⟩
theorem Reps.mono (st : Step ρ N H ρ' N' H') {m m' : Nat} (hm : m ≤ N) (hm' : m ≤ m') : ∀ (xs : List CV) {vs : List V}, Reps Γ ρ N H m xs vs → Reps Γ ρ' N' H' m' xs vs
  | [], vs, h => by unfold Reps at h ⊢; exact h
  | x :: xs, vs, h => by
    unfold Reps at h ⊢
    obtain ⟨v, r, e, h1, h2⟩ := h
    exact ⟨v, r, e, Rep.mono st hm hm' x h1, Reps.mono st hm hm' xs h2⟩
theorem RepK.mono (st : Step ρ N H ρ' N' H') {m m' : Nat} (hm : m ≤ N) (hm' : m ≤ m') : ∀ (xs : List (CV × CV)) {vs : List (Key × V)}, RepK Γ ρ N H m xs vs → RepK Γ ρ' N' H' m' xs vs
  | [], vs, h => by unfold RepK at h ⊢; exact h
  | (k, x) :: xs, vs, h => by
    unfold RepK at h ⊢
    obtain ⟨k', v, r, e, hk, h1, h2⟩ := h
    exact ⟨k', v, r, e, hk, Rep.mono st hm hm' x h1, RepK.mono st hm hm' xs h2⟩
theorem RepT.mono (st : Step ρ N H ρ' N' H') {m m' : Nat} (hm : m ≤ N) (hm' : m ≤ m') : ∀ (xs : List (CV × CV)) {vs : List (List Key × V)}, RepT Γ ρ N H m xs vs → RepT Γ ρ' N' H' m' xs vs
  | [], vs, h => by unfold RepT at h ⊢; exact h
  | (k, x) :: xs, vs, h => by
    unfold RepT at h ⊢
    obtain ⟨k', v, r, e, hk, h1, h2⟩ := h
    exact ⟨k', v, r, e, hk, Rep.mono st hm hm' x h1, RepT.mono st hm hm' xs h2⟩
theorem RepF.mono (st : Step ρ N H ρ' N' H') {m m' : Nat} (hm : m ≤ N) (hm' : m ≤ m') : ∀ (xs : List (Nat × CV)) {vs : List (Str × V)}, RepF Γ ρ N H m xs vs → RepF Γ ρ' N' H' m' xs vs
  | [], vs, h => by unfold RepF at h ⊢; exact h
  | (k, x) :: xs, vs, h => by
    unfold RepF at h ⊢
    obtain ⟨v, r, e, h1, h2⟩ := h
    exact ⟨v, r, e, Rep.mono st hm hm' x h1, RepF.mono st hm hm' xs h2⟩
end
end
end Bl

/-! Own layer, part B: limits, freezing, the clean heap's relation. -/
namespace Bl
open PySem PySem.Spec PyProof.Rows L2

mutual
def limV (f : Nat) : CV → Bool
  | .ref n => decide (n < f)
  | .tup xs => limL f xs
  | .wtp xs => limL f xs
  | _ => true
def limL (f : Nat) : List CV → Bool
  | [] => true
  | x :: r => limV f x && limL f r
end
def limK (f : Nat) : List (CV × CV) → Bool
  | [] => true
  | x :: r => limV f x.2 && limK f r
def limF (f : Nat) : List (Nat × CV) → Bool
  | [] => true
  | x :: r => limV f x.2 && limF f r
def limO (f : Nat) : CO → Bool
  | .lst xs => limL f xs
  | .dic _ kvs => limK f kvs
  | .ins _ fs => limF f fs

section
variable {Γ : Gx} {ρ : Rh} {N : Nat} {H : Hp} {f : Nat}
theorem Own.mono {N' : Nat} {a : Addr} (h : Own ρ N a) (le : N ≤ N') : Own ρ N' a := let ⟨i, h1, h2⟩ := h; ⟨i, Nat.lt_of_lt_of_le h1 (Nat.add_le_add_left le _), h2⟩
theorem RdU.trunc (hf : f ≤ N) {a : Addr} {u : HO} (h : RdU ρ N H a u) : RdU ρ f H a u := ⟨fun o => h.1 (o.mono hf), h.2⟩
theorem insU.trunc (hf : f ≤ N) {a : Addr} {u : HO} (h : insU ρ N H a u) : insU ρ f H a u := ⟨fun o => h.1 (o.mono hf), h.2⟩
mutual
theorem Rep.trunc (hf : f ≤ N) {m m' : Nat} : ∀ (x : CV) {v : V}, (m = m' ∨ limV m' x = true) → Rep Γ ρ N H m x v → Rep Γ ρ f H m' x v
  | .non, v, _, h => by unfold Rep at h ⊢; exact h
  | .bl b, v, _, h => by unfold Rep at h ⊢; exact h
  | .int i, v, _, h => by unfold Rep at h ⊢; exact h
  | .str s, v, _, h => by unfold Rep at h ⊢; exact h
  | .ref n, v, l, h => by
    unfold Rep at h ⊢
    refine ⟨?_, h.2⟩
    rcases l with l | l
    · rw [← l]; exact h.1
    · unfold limV at l; exact of_decide_eq_true l
  | .tup xs, v, l, h => by
    unfold Rep at h ⊢
    obtain ⟨a, vs, e, r, q⟩ := h
    exact ⟨a, vs, e, r.trunc hf, Reps.trunc hf xs (l.imp id fun z => by unfold limV at z; exact z) q⟩
  | .wtp xs, v, l, h => by
    unfold Rep at h ⊢
    obtain ⟨a, vs, e, r, q⟩ := h
    exact ⟨a, vs, e, r.imp (insU.trunc hf) id, Reps.trunc hf xs (l.imp id fun z => by unfold limV at z; exact z) q⟩
  | .wdc i, v, _, h => by unfold Rep at h ⊢; exact h
  | .lst xs, v, _, h => by
    unfold Rep at h ⊢
    obtain ⟨a, vs, e, r, q⟩ := h
    exact ⟨a, vs, e, r.imp (RdU.trunc hf) id, Reps.trunc hf xs (.inl rfl) q⟩
  | .dct false kvs, v, _, h => by
    unfold Rep at h ⊢
    obtain ⟨a, ds, e, r, q⟩ := h
    exact ⟨a, ds, e, r.trunc hf, RepK.trunc hf kvs (.inl rfl) q⟩
  | .dct true kvs, v, _, h => by
    unfold Rep at h ⊢
    obtain ⟨a, ds, e, r, q⟩ := h
    exact ⟨a, ds, e, r.trunc hf, RepT.trunc hf kvs (.inl rfl) q⟩
  | .ins c fs, v, _, h => by
    unfold Rep at h ⊢
    obtain ⟨a, dx, ds, e, r, q⟩ := h
    exact ⟨a, dx, ds, e, r.trunc hf, RepF.trunc hf fs (.inl rfl) q⟩
theorem Reps.trunc (hf : f ≤ N) {m m' : Nat} : ∀ (xs : List CV) {vs : List V}, (m = m' ∨ limL m' xs = true) → Reps Γ ρ N H m xs vs → Reps Γ ρ f H m' xs vs
  | [], vs, _, h => by unfold Reps at h ⊢; exact h
  | x :: xs, vs, l, h => by
    unfold Reps at h ⊢
    obtain ⟨v, r, e, h1, h2⟩ := h
    refine ⟨v, r, e, Rep.trunc hf x (l.imp id fun z => ?_) h1, Reps.trunc hf xs (l.imp id fun z => ?_) h2⟩ <;>
      (unfold limL at z; rw [Bool.and_eq_true] at z)
    · exact z.1
    · exact z.2
theorem RepK.trunc (hf : f ≤ N) {m m' : Nat} : ∀ (xs : List (CV × CV)) {vs : List (Key × V)}, (m = m' ∨ limK m' xs = true) → RepK Γ ρ N H m xs vs → RepK Γ ρ f H m' xs vs
  | [], vs, _, h => by unfold RepK at h ⊢; exact h
  | (k, x) :: xs, vs, l, h => by
    unfold RepK at h ⊢
    obtain ⟨k', v, r, e, hk, h1, h2⟩ := h
    refine ⟨k', v, r, e, hk, Rep.trunc hf x (l.imp id fun z => ?_) h1, RepK.trunc hf xs (l.imp id fun z => ?_) h2⟩ <;>
      (unfold limK at z; rw [Bool.and_eq_true] at z)
    · exact z.1
    · exact z.2
theorem RepT.trunc (hf : f ≤ N) {m m' : Nat} : ∀ (xs : List (CV × CV)) {vs : List (List Key × V)}, (m = m' ∨ limK m' xs = true) → RepT Γ ρ N H m xs vs → RepT Γ ρ f H m' xs vs
  | [], vs, _, h => by unfold RepT at h ⊢; exact h
  | (k, x) :: xs, vs, l, h => by
    unfold RepT at h ⊢
    obtain ⟨k', v, r, e, hk, h1, h2⟩ := h
    refine ⟨k', v, r, e, hk, Rep.trunc hf x (l.imp id fun z => ?_) h1, RepT.trunc hf xs (l.imp id fun z => ?_) h2⟩ <;>
      (unfold limK at z; rw [Bool.and_eq_true] at z)
    · exact z.1
    · exact z.2
theorem RepF.trunc (hf : f ≤ N) {m m' : Nat} : ∀ (xs : List (Nat × CV)) {vs : List (Str × V)}, (m = m' ∨ limF m' xs = true) → RepF Γ ρ N H m xs vs → RepF Γ ρ f H m' xs vs
  | [], vs, _, h => by unfold RepF at h ⊢; exact h
  | (k, x) :: xs, vs, l, h => by
    unfold RepF at h ⊢
    obtain ⟨v, r, e, h1, h2⟩ := h
    refine ⟨v, r, e, Rep.trunc hf x (l.imp id fun z => ?_) h1, RepF.trunc hf xs (l.imp id fun z => ?_) h2⟩ <;>
      (unfold limF at z; rw [Bool.and_eq_true] at z)
    · exact z.1
    · exact z.2
end
end

/-- what stands at a tracked address -/
def RepO (Γ : Gx) (ρ : Rh) (N : Nat) (H : Hp) (m : Nat) (a : Addr) : CO → Prop
  | .lst xs => ∃ vs, H a = some (.lst vs) ∧ Reps Γ ρ N H m xs vs
  | .dic false kvs => ∃ ds, H a = some (.dK ds) ∧ RepK Γ ρ N H m kvs ds
  | .dic true kvs => ∃ ds, H a = some (.dT ds) ∧ RepT Γ ρ N H m kvs ds
  | .ins c fs => ∃ dx ds, H a = some (.ins (Γ.cl c) dx ds) ∧ RepF Γ ρ N H m fs ds

abbrev Hc.N (hp : Hc) : Nat := hp.os.length
/-- what the clean heap holds -/
def ownK : HO → Bool
  | .lst _ => true
  | .dK _ => true
  | .dT _ => true
  | .ins _ _ _ => true
  | _ => false
theorem ownK_stab {u : HO} (h : ownK u = true) : stab u = true := by
  cases u <;> first | rfl | cases h
/-- the clean heap is held; F: the floors of the scopes around -/
structure SRh (Γ : Gx) (ρ : Rh) (F : List Nat) (hp : Hc) (H : Hp) : Prop where
  inj : InjR ρ hp.N
  hidt : ∀ i, i < ρ.b → ∃ u, ownK u = true ∧ H (ρ.f i) = some u
  obj : ∀ i o, hp.os[i]? = some o → RepO Γ ρ hp.N H hp.N (ρ i) o
  fl : hp.fl ≤ hp.N
  fls : ∀ f ∈ F, f ≤ hp.fl ∧ ∀ i o, i < f → hp.os[i]? = some o → limO f o = true
  tab : LamX.Tabs Γ.T H

section
variable {Γ : Gx} {ρ ρ' : Rh} {N N' : Nat} {H H' : Hp} {F : List Nat} {hp : Hc}
theorem RepO.mono (st : Step ρ N H ρ' N' H') {m m' : Nat} (hm : m ≤ N) (hm' : m ≤ m') {a : Addr} (ha : H' a = H a) : ∀ {o : CO}, RepO Γ ρ N H m a o → RepO Γ ρ' N' H' m' a o
  | .lst xs, h => by
    obtain ⟨vs, e, q⟩ := h
    exact ⟨vs, ha.trans e, Reps.mono st hm hm' _ q⟩
  | .dic false kvs, h => by
    obtain ⟨vs, e, q⟩ := h
    exact ⟨vs, ha.trans e, RepK.mono st hm hm' _ q⟩
  | .dic true kvs, h => by
    obtain ⟨vs, e, q⟩ := h
    exact ⟨vs, ha.trans e, RepT.mono st hm hm' _ q⟩
  | .ins c fs, h => by
    obtain ⟨dx, vs, e, q⟩ := h
    exact ⟨dx, vs, ha.trans e, RepF.mono st hm hm' _ q⟩
theorem RepO.there {a : Addr} {m : Nat} : ∀ {o : CO}, RepO Γ ρ N H m a o → ∃ u, H a = some u
  | .lst xs, h => let ⟨_, e, _⟩ := h; ⟨_, e⟩
  | .dic false kvs, h => let ⟨_, e, _⟩ := h; ⟨_, e⟩
  | .dic true kvs, h => let ⟨_, e, _⟩ := h; ⟨_, e⟩
  | .ins c fs, h => let ⟨_, _, e, _⟩ := h; ⟨_, e⟩
theorem RepO.notTbl {a : Addr} {m : Nat} (ps : Array Value) : ∀ {o : CO}, RepO Γ ρ N H m a o → H a ≠ some (.tbl ps)
  | .lst xs, h => let ⟨_, e, _⟩ := h; fun z => by rw [e] at z; cases z
  | .dic false kvs, h => let ⟨_, e, _⟩ := h; fun z => by rw [e] at z; cases z
  | .dic true kvs, h => let ⟨_, e, _⟩ := h; fun z => by rw [e] at z; cases z
  | .ins c fs, h => let ⟨_, _, e, _⟩ := h; fun z => by rw [e] at z; cases z
theorem RepO.notExt {a : Addr} {m : Nat} (φ : Heap → Prop) : ∀ {o : CO}, RepO Γ ρ N H m a o → H a ≠ some (.ext φ)
  | .lst xs, h => let ⟨_, e, _⟩ := h; fun z => by rw [e] at z; cases z
  | .dic false kvs, h => let ⟨_, e, _⟩ := h; fun z => by rw [e] at z; cases z
  | .dic true kvs, h => let ⟨_, e, _⟩ := h; fun z => by rw [e] at z; cases z
  | .ins c fs, h => let ⟨_, _, e, _⟩ := h; fun z => by rw [e] at z; cases z
theorem SRh.injN (r : SRh Γ ρ F hp H) (i j : Nat) (hi : i < hp.N) (hj : j < hp.N) (e : ρ i = ρ j) : i = j := Nat.add_left_cancel (r.inj _ _ (Nat.add_lt_add_left hi _) (Nat.add_lt_add_left hj _) e)
theorem own_at {i : Nat} (h : i < N) : Own ρ N (ρ i) := ⟨ρ.b + i, Nat.add_lt_add_left h _, rfl⟩
theorem SRh.at (r : SRh Γ ρ F hp H) {i : Nat} (hi : i < hp.N) : ∃ o, hp.os[i]? = some o ∧ RepO Γ ρ hp.N H hp.N (ρ i) o :=
  ⟨hp.os[i], List.getElem?_eq_getElem hi, r.obj i _ (List.getElem?_eq_getElem hi)⟩
theorem SRh.there (r : SRh Γ ρ F hp H) {a : Addr} (h : Own ρ hp.N a) : ∃ u, H a = some u := by
  obtain ⟨i, hi, e⟩ := h
  by_cases hb : i < ρ.b
  · obtain ⟨u, _, q⟩ := r.hidt i hb
    exact ⟨u, by rw [← e]; exact q⟩
  · obtain ⟨o, _, q⟩ := r.at (i := i - ρ.b) (by omega)
    have ei : ρ (i - ρ.b) = ρ.f i := by show ρ.f (ρ.b + (i - ρ.b)) = ρ.f i; rw [Nat.add_sub_cancel' (Nat.le_of_not_lt hb)]
    rw [← e, ← ei]
    exact q.there
theorem SRh.fresh (r : SRh Γ ρ F hp H) {p : Addr} (h : H p = none) : ¬ Own ρ hp.N p := fun o => by
  obtain ⟨u, e⟩ := r.there o
  rw [h] at e; cases e
/-- the heap has changed off what is tracked -/
theorem SRh.off (r : SRh Γ ρ F hp H) (st : Step ρ hp.N H ρ hp.N H') (h : ∀ i, i < hp.N → H' (ρ i) = H (ρ i)) (ht : LamX.Tabs Γ.T H') : SRh Γ ρ F hp H' :=
  ⟨r.inj, fun i hi => (let ⟨u, q, z⟩ := r.hidt i hi; ⟨u, q, st.hid r.inj i u hi (ownK_stab q) z⟩), fun i o e => (r.obj i o e).mono st (Nat.le_refl _) (Nat.le_refl _) (h i (List.getElem?_eq_some_iff.mp e).1), r.fl, r.fls, ht⟩
theorem rd_upd {p a : Addr} {o u : HO} (h : Rd H a u) (hp : H p = none) : Rd (upd H p o) a u := by
  have ne : a ≠ p := fun e => by
    subst e
    rcases h with h | ⟨z, h⟩ <;> (rw [hp] at h; cases h)
  rcases h with h | ⟨z, h⟩
  · exact .inl (by rw [upd_ne ne]; exact h)
  · exact .inr ⟨z, by rw [upd_ne ne]; exact h⟩
/-- a new object that the clean heap does not hold -/
theorem step_new {p : Addr} {o : HO} (h : H p = none) : Step ρ N H ρ N (upd H p o) :=
  ⟨Nat.le_refl _, rfl, fun _ _ => rfl, fun _ i u _ _ q => by rw [upd_ne (ne_of_none q h)]; exact q, fun a u _ q => ⟨q.1, rd_upd q.2 h⟩, fun a u _ q => ⟨q.1, by rw [upd_ne (ne_of_none q.2 h)]; exact q.2⟩⟩
theorem tab_new {p : Addr} {o : HO} (t : LamX.Tabs Γ.T H) (h : H p = none) : LamX.Tabs Γ.T (upd H p o) := t.ext fun b u e => by rw [upd_ne (ne_of_none e h)]; exact e
theorem SRh.new (r : SRh Γ ρ F hp H) {p : Addr} {o : HO} (h : H p = none) : SRh Γ ρ F hp (upd H p o) :=
  r.off (step_new h) (fun i hi => by
    obtain ⟨u, e⟩ := r.there (own_at hi)
    exact upd_ne (ne_of_none e h)) (tab_new r.tab h)
/-- the address of a new clean object -/
def ext (ρ : Rh) (N : Nat) (p : Addr) : Rh := ⟨ρ.b, fun i => if i = ρ.b + N then p else ρ.f i⟩
theorem extF_lt {p : Addr} {i : Nat} (h : i < ρ.b + N) : (ext ρ N p).f i = ρ.f i := by
  show (if i = ρ.b + N then p else ρ.f i) = ρ.f i
  rw [if_neg (Nat.ne_of_lt h)]
theorem extF_at {p : Addr} : (ext ρ N p).f (ρ.b + N) = p := by
  show (if ρ.b + N = ρ.b + N then p else ρ.f (ρ.b + N)) = p
  rw [if_pos rfl]
theorem ext_at {p : Addr} : ext ρ N p N = p := extF_at
theorem ext_lt {p : Addr} {i : Nat} (h : i < N) : ext ρ N p i = ρ i := extF_lt (Nat.add_lt_add_left h _)
theorem own_ext {p a : Addr} (h : Own (ext ρ N p) (N + 1) a) : a = p ∨ Own ρ N a := by
  obtain ⟨i, hi, e⟩ := h
  have hi' : i < ρ.b + (N + 1) := hi
  by_cases z : i = ρ.b + N
  · subst z; rw [extF_at] at e; exact .inl e.symm
  · have hl : i < ρ.b + N := by omega
    rw [extF_lt hl] at e
    exact .inr ⟨i, hl, e⟩
theorem step_alloc {p : Addr} {o : HO} (h : H p = none) : Step ρ N H (ext ρ N p) (N + 1) (upd H p o) := by
  have ne : ∀ a u, Rd H a u → a ≠ p := fun a u q e => by
    subst e
    rcases q with q | ⟨z, q⟩ <;> (rw [h] at q; cases q)
  refine ⟨Nat.le_succ _, rfl, fun i hi => extF_lt hi, fun _ i u _ _ q => by rw [upd_ne (ne_of_none q h)]; exact q, fun a u _ q => ⟨fun w => ?_, rd_upd q.2 h⟩, fun a u _ q => ⟨fun w => ?_, by rw [upd_ne (ne_of_none q.2 h)]; exact q.2⟩⟩
  · rcases own_ext w with e | w
    · exact ne a u q.2 e
    · exact q.1 w
  · rcases own_ext w with e | w
    · exact ne a _ (.inl q.2) e
    · exact q.1 w
def Hc.push (hp : Hc) (o : CO) : Hc := ⟨hp.fl, hp.os ++ [o]⟩
theorem Hc.push_N (hp : Hc) (o : CO) : (hp.push o).N = hp.N + 1 := by simp [Hc.push, Hc.N]
theorem SRh.alloc (r : SRh Γ ρ F hp H) {p : Addr} {o : HO} {c : CO} (h : H p = none) (new : RepO Γ (ext ρ hp.N p) (hp.N + 1) (upd H p o) (hp.N + 1) p c) : SRh Γ (ext ρ hp.N p) F (hp.push c) (upd H p o) := by
  refine ⟨fun i j hi hj e => ?_, fun i hi => ?_, fun i u e => ?_, ?_, fun f hf => ?_, tab_new r.tab h⟩
  · rw [Hc.push_N] at hi hj
    have hi0 : i < ρ.b + (hp.N + 1) := hi
    have hj0 : j < ρ.b + (hp.N + 1) := hj
    by_cases ei : i = ρ.b + hp.N <;> by_cases ej : j = ρ.b + hp.N
    · rw [ei, ej]
    · subst ei
      have hj' : j < ρ.b + hp.N := by omega
      rw [extF_at, extF_lt hj'] at e
      obtain ⟨u, q⟩ := r.there ⟨j, hj', rfl⟩
      rw [← e, h] at q; cases q
    · subst ej
      have hi' : i < ρ.b + hp.N := by omega
      rw [extF_at, extF_lt hi'] at e
      obtain ⟨u, q⟩ := r.there ⟨i, hi', rfl⟩
      rw [e, h] at q; cases q
    · have hi' : i < ρ.b + hp.N := by omega
      have hj' : j < ρ.b + hp.N := by omega
      rw [extF_lt hi', extF_lt hj'] at e
      exact r.inj i j hi' hj' e
  · obtain ⟨u, q, z⟩ := r.hidt i hi
    refine ⟨u, q, ?_⟩
    have hi0 : i < ρ.b := hi
    rw [extF_lt (Nat.lt_of_lt_of_le hi0 (Nat.le_add_right _ _)), upd_ne (ne_of_none z h)]
    exact z
  · rw [Hc.push_N]
    by_cases ei : i < hp.N
    · have e' : hp.os[i]? = some u := by
        have z : (hp.os ++ [c])[i]? = some u := e
        rwa [List.getElem?_append_left ei] at z
      rw [ext_lt ei]
      obtain ⟨w, q⟩ := r.there (own_at ei)
      exact (r.obj i u e').mono (step_alloc h) (Nat.le_refl _) (Nat.le_succ _) (upd_ne (ne_of_none q h))
    · have z : (hp.os ++ [c])[i]? = some u := e
      have hl := (List.getElem?_eq_some_iff.mp z).1
      rw [List.length_append, List.length_singleton] at hl
      have ei2 : ¬ i < hp.os.length := ei
      have ei' : i = hp.N := by show i = hp.os.length; omega
      subst ei'
      have z' : (hp.os ++ [c])[hp.os.length]? = some u := z
      rw [List.getElem?_append_right (Nat.le_refl _), Nat.sub_self] at z'
      simp only [List.getElem?_cons_zero, Option.some.injEq] at z'
      subst z'
      rw [ext_at]
      exact new
  · rw [Hc.push_N]; exact Nat.le_succ_of_le r.fl
  · refine ⟨(r.fls f hf).1, fun i u hi e => (r.fls f hf).2 i u hi ?_⟩
    have z : (hp.os ++ [c])[i]? = some u := e
    have hl : i < hp.os.length := Nat.lt_of_lt_of_le hi (Nat.le_trans (r.fls f hf).1 r.fl)
    rwa [List.getElem?_append_left hl] at z

/-- an object of the clean heap is written -/
def Hc.set (hp : Hc) (i : Nat) (o : CO) : Hc := ⟨hp.fl, hp.os.set i o⟩
theorem Hc.set_N (hp : Hc) (i : Nat) (o : CO) : (hp.set i o).N = hp.N := by simp [Hc.set, Hc.N]
theorem step_write {i : Nat} {o : HO} (hi : i < N) : Step ρ N H ρ N (upd H (ρ i) o) := by
  refine ⟨Nat.le_refl _, rfl, fun _ _ => rfl, fun inj j u hj _ q => ?_, fun a u _ q => ⟨q.1, ?_⟩, fun a u _ q => ⟨q.1, ?_⟩⟩
  · have ne : ρ.f j ≠ ρ i := fun e => by
      have := inj j (ρ.b + i) (Nat.lt_of_lt_of_le hj (Nat.le_add_right _ _)) (Nat.add_lt_add_left hi _) e
      omega
    rw [upd_ne ne]; exact q
  · have ne : a ≠ ρ i := fun e => q.1 (by rw [e]; exact own_at hi)
    rcases q.2 with z | ⟨w, z⟩
    · exact .inl (by rw [upd_ne ne]; exact z)
    · exact .inr ⟨w, by rw [upd_ne ne]; exact z⟩
  · have ne : a ≠ ρ i := fun e => q.1 (by rw [e]; exact own_at hi)
    rw [upd_ne ne]; exact q.2
theorem SRh.write (r : SRh Γ ρ F hp H) {i : Nat} {o : HO} {c : CO} (hi : i < hp.N) (hl : i < hp.fl → limO (i + 1) c = true) (lm : ∀ f, i + 1 ≤ f → limO (i + 1) c = true → limO f c = true)
    (new : RepO Γ ρ hp.N (upd H (ρ i) o) hp.N (ρ i) c) : SRh Γ ρ F (hp.set i c) (upd H (ρ i) o) := by
  refine ⟨fun a b ha hb e => ?_, fun j hj => (let ⟨u, q, z⟩ := r.hidt j hj; ⟨u, q, (step_write (o := o) hi).hid r.inj j u hj (ownK_stab q) z⟩), fun j u e => ?_, ?_, fun f hf => ⟨(r.fls f hf).1, fun j u hj e => ?_⟩, fun q hq => ?_⟩
  · rw [Hc.set_N] at ha hb
    exact r.inj a b ha hb e
  · rw [Hc.set_N]
    have z : (hp.os.set i c)[j]? = some u := e
    by_cases hij : i = j
    · subst hij
      rw [List.getElem?_set_self hi] at z
      cases z
      exact new
    · rw [List.getElem?_set_ne hij] at z
      have hj : j < hp.N := (List.getElem?_eq_some_iff.mp z).1
      exact (r.obj j u z).mono (step_write hi) (Nat.le_refl _) (Nat.le_refl _) (upd_ne fun q => hij (r.injN i j hi hj q.symm))
  · rw [Hc.set_N]; exact r.fl
  · have z : (hp.os.set i c)[j]? = some u := e
    by_cases hij : i = j
    · subst hij
      rw [List.getElem?_set_self hi] at z
      cases z
      exact lm f hj (hl (Nat.lt_of_lt_of_le hj (r.fls f hf).1))
    · rw [List.getElem?_set_ne hij] at z
      exact (r.fls f hf).2 j u hj z
  · obtain ⟨ps, h1, h2, h3⟩ := r.tab q hq
    obtain ⟨oc, _, ho⟩ := r.at hi
    have e1 : q.1 ≠ ρ i := fun z => ho.notTbl ps (by rw [← z]; exact h1)
    refine ⟨ps, by rw [upd_ne e1]; exact h1, h2, fun pos cv hc => ?_⟩
    obtain ⟨c0, rfl, h4⟩ := h3 pos cv hc
    have e2 : c0 ≠ ρ i := fun z => ho.notExt _ (by rw [← z]; exact h4)
    exact ⟨c0, rfl, by rw [upd_ne e2]; exact h4⟩
mutual
theorem limV_mono {f g : Nat} (h : f ≤ g) : ∀ x : CV, limV f x = true → limV g x = true
  | .ref n, e => by unfold limV at e ⊢; exact decide_eq_true (Nat.lt_of_lt_of_le (of_decide_eq_true e) h)
  | .tup xs, e => by unfold limV at e ⊢; exact limL_mono h xs e
  | .non, e => rfl
  | .bl _, e => rfl
  | .int _, e => rfl
  | .str _, e => rfl
  | .wtp xs, e => by unfold limV at e ⊢; exact limL_mono h xs e
  | .wdc _, e => rfl
  | .lst _, e => rfl
  | .dct _ _, e => rfl
  | .ins _ _, e => rfl
theorem limL_mono {f g : Nat} (h : f ≤ g) : ∀ xs : List CV, limL f xs = true → limL g xs = true
  | [], _ => rfl
  | x :: xs, e => by
    unfold limL at e ⊢
    rw [Bool.and_eq_true] at e ⊢
    exact ⟨limV_mono h x e.1, limL_mono h xs e.2⟩
end
theorem limK_mono {f g : Nat} (h : f ≤ g) : ∀ xs : List (CV × CV), limK f xs = true → limK g xs = true
  | [], _ => rfl
  | x :: xs, e => by
    unfold limK at e ⊢
    rw [Bool.and_eq_true] at e ⊢
    exact ⟨limV_mono h x.2 e.1, limK_mono h xs e.2⟩
theorem limF_mono {f g : Nat} (h : f ≤ g) : ∀ xs : List (Nat × CV), limF f xs = true → limF g xs = true
  | [], _ => rfl
  | x :: xs, e => by
    unfold limF at e ⊢
    rw [Bool.and_eq_true] at e ⊢
    exact ⟨limV_mono h x.2 e.1, limF_mono h xs e.2⟩
theorem limO_mono {f g : Nat} (h : f ≤ g) : ∀ c : CO, limO f c = true → limO g c = true
  | .lst xs, e => limL_mono h xs e
  | .dic _ kvs, e => limK_mono h kvs e
  | .ins _ fs, e => limF_mono h fs e
end

/-! ### freezing -/
def frzL (g : CV → Option CV) : List CV → Option (List CV)
  | [] => some []
  | x :: r => match g x, frzL g r with
    | some y, some s => some (y :: s)
    | _, _ => none
def frzK (g : CV → Option CV) : List (CV × CV) → Option (List (CV × CV))
  | [] => some []
  | x :: r => match g x.2, frzK g r with
    | some y, some s => some ((x.1, y) :: s)
    | _, _ => none
def frzF (g : CV → Option CV) : List (Nat × CV) → Option (List (Nat × CV))
  | [] => some []
  | x :: r => match g x.2, frzF g r with
    | some y, some s => some ((x.1, y) :: s)
    | _, _ => none
def frz (os : List CO) (f : Nat) : Nat → Bool → CV → Option CV
  | 0, _, _ => none
  | d + 1, top, .ref n => if n < f then (if top then some (.ref n) else none) else match os[n]? with
    | some (.lst xs) => (frzL (frz os f d false) xs).map .lst
    | some (.dic t kvs) => (frzK (frz os f d false) kvs).map (.dct t)
    | some (.ins c fs) => (frzF (frz os f d false) fs).map (.ins c)
    | none => none
  | d + 1, top, .tup xs => if limL 0 xs = true then some (.tup xs) else (frzL (frz os f d top) xs).map .tup
  | d + 1, top, .wtp xs => if limL 0 xs = true then some (.wtp xs) else (frzL (frz os f d top) xs).map .wtp
  | d + 1, _, x => some x
def frzV (os : List CO) (f : Nat) (v : CV) : Option CV := if limV f v = true then some v else frz os f 16 true v

section
variable {Γ : Gx} {ρ : Rh} {H : Hp} {F : List Nat} {hp : Hc} {f : Nat}
theorem frzL_ok {g : CV → Option CV} {m m' : Nat} (hg : ∀ x y v, g x = some y → Rep Γ ρ hp.N H m x v → Rep Γ ρ f H m' y v) : ∀ {xs ys : List CV} {vs : List V}, frzL g xs = some ys → Reps Γ ρ hp.N H m xs vs → Reps Γ ρ f H m' ys vs
  | [], ys, vs, e, h => by
    unfold frzL at e; cases e
    unfold Reps at h ⊢; exact h
  | x :: xs, ys, vs, e, h => by
    unfold frzL at e
    split at e
    · rename_i y s e1 e2
      cases e
      unfold Reps at h ⊢
      obtain ⟨v, r, q, h1, h2⟩ := h
      exact ⟨v, r, q, hg _ _ _ e1 h1, frzL_ok hg e2 h2⟩
    · cases e
theorem frzK_ok {g : CV → Option CV} {m m' : Nat} (hg : ∀ x y v, g x = some y → Rep Γ ρ hp.N H m x v → Rep Γ ρ f H m' y v) : ∀ {xs ys : List (CV × CV)} {vs : List (Key × V)}, frzK g xs = some ys → RepK Γ ρ hp.N H m xs vs → RepK Γ ρ f H m' ys vs
  | [], ys, vs, e, h => by
    unfold frzK at e; cases e
    unfold RepK at h ⊢; exact h
  | (k, x) :: xs, ys, vs, e, h => by
    unfold frzK at e
    split at e
    · rename_i y s e1 e2
      cases e
      unfold RepK at h ⊢
      obtain ⟨k', v, r, q, hk, h1, h2⟩ := h
      exact ⟨k', v, r, q, hk, hg _ _ _ e1 h1, frzK_ok hg e2 h2⟩
    · cases e
theorem frzT_ok {g : CV → Option CV} {m m' : Nat} (hg : ∀ x y v, g x = some y → Rep Γ ρ hp.N H m x v → Rep Γ ρ f H m' y v) : ∀ {xs ys : List (CV × CV)} {vs : List (List Key × V)}, frzK g xs = some ys → RepT Γ ρ hp.N H m xs vs → RepT Γ ρ f H m' ys vs
  | [], ys, vs, e, h => by
    unfold frzK at e; cases e
    unfold RepT at h ⊢; exact h
  | (k, x) :: xs, ys, vs, e, h => by
    unfold frzK at e
    split at e
    · rename_i y s e1 e2
      cases e
      unfold RepT at h ⊢
      obtain ⟨k', v, r, q, hk, h1, h2⟩ := h
      exact ⟨k', v, r, q, hk, hg _ _ _ e1 h1, frzT_ok hg e2 h2⟩
    · cases e
theorem frzF_ok {g : CV → Option CV} {m m' : Nat} (hg : ∀ x y v, g x = some y → Rep Γ ρ hp.N H m x v → Rep Γ ρ f H m' y v) : ∀ {xs ys : List (Nat × CV)} {vs : List (Str × V)}, frzF g xs = some ys → RepF Γ ρ hp.N H m xs vs → RepF Γ ρ f H m' ys vs
  | [], ys, vs, e, h => by
    unfold frzF at e; cases e
    unfold RepF at h ⊢; exact h
  | (k, x) :: xs, ys, vs, e, h => by
    unfold frzF at e
    split at e
    · rename_i y s e1 e2
      cases e
      unfold RepF at h ⊢
      obtain ⟨v, r, q, h1, h2⟩ := h
      exact ⟨v, r, q, hg _ _ _ e1 h1, frzF_ok hg e2 h2⟩
    · cases e
theorem frz_ok (r : SRh Γ ρ F hp H) (hf : f ≤ hp.N) : ∀ (d : Nat) (top : Bool) (x y : CV) (m : Nat) (v : V), m ≤ hp.N → frz hp.os f d top x = some y → Rep Γ ρ hp.N H m x v → Rep Γ ρ f H (if top then f else 0) y v := by
  intro d
  induction d with
  | zero => intro top x y m v _ e; simp [frz] at e
  | succ d ih =>
    intro top x y m v hm e h
    have pass : ∀ (z : CV), limV 0 z = true → Rep Γ ρ hp.N H m z v → Rep Γ ρ f H (if top then f else 0) z v := fun z hz hr =>
      Rep.trunc hf z (.inr (limV_mono (Nat.zero_le _) z hz)) hr
    cases x with
    | ref n =>
      unfold Rep at h
      obtain ⟨hn, rfl⟩ := h
      have hnN : n < hp.N := Nat.lt_of_lt_of_le hn hm
      unfold frz at e
      by_cases hnf : n < f
      · rw [if_pos hnf] at e
        cases top with
        | true =>
          simp only [if_true] at e ⊢
          cases e
          unfold Rep
          exact ⟨hnf, rfl⟩
        | false => simp at e
      · rw [if_neg hnf] at e
        have free : ¬ Own ρ f (ρ n) := fun ⟨i, hi, q⟩ => hnf (by
          have hi' : i < ρ.b + f := hi
          have := r.inj i (ρ.b + n) (Nat.lt_of_lt_of_le hi' (Nat.add_le_add_left hf _)) (Nat.add_lt_add_left hnN _) q
          omega)
        split at e
        · rename_i xs he
          obtain ⟨vs, ha, hq⟩ := r.obj n _ he
          cases q : frzL (frz hp.os f d false) xs with
          | none => rw [q] at e; cases e
          | some ys =>
            rw [q] at e; cases e
            unfold Rep
            exact ⟨ρ n, vs, rfl, .inl ⟨free, .inl ha⟩, frzL_ok (fun x y v q1 q2 => ih false x y hp.N v (Nat.le_refl _) q1 q2) q hq⟩
        · rename_i t kvs he
          cases q : frzK (frz hp.os f d false) kvs with
          | none => rw [q] at e; cases e
          | some ys =>
            rw [q] at e; cases e
            cases t with
            | false =>
              obtain ⟨vs, ha, hq⟩ := r.obj n _ he
              unfold Rep
              exact ⟨ρ n, vs, rfl, ⟨free, .inl ha⟩, frzK_ok (fun x y v q1 q2 => ih false x y hp.N v (Nat.le_refl _) q1 q2) q hq⟩
            | true =>
              obtain ⟨vs, ha, hq⟩ := r.obj n _ he
              unfold Rep
              exact ⟨ρ n, vs, rfl, ⟨free, .inl ha⟩, frzT_ok (fun x y v q1 q2 => ih false x y hp.N v (Nat.le_refl _) q1 q2) q hq⟩
        · rename_i c fs he
          obtain ⟨dx, vs, ha, hq⟩ := r.obj n _ he
          cases q : frzF (frz hp.os f d false) fs with
          | none => rw [q] at e; cases e
          | some ys =>
            rw [q] at e; cases e
            unfold Rep
            exact ⟨ρ n, dx, vs, rfl, ⟨free, ha⟩, frzF_ok (fun x y v q1 q2 => ih false x y hp.N v (Nat.le_refl _) q1 q2) q hq⟩
        · cases e
    | tup xs =>
      unfold frz at e
      by_cases hl : limL 0 xs = true
      · rw [if_pos hl] at e
        cases e
        exact pass _ hl h
      rw [if_neg hl] at e
      cases q : frzL (frz hp.os f d top) xs with
      | none => rw [q] at e; cases e
      | some ys =>
        rw [q] at e; cases e
        unfold Rep at h ⊢
        obtain ⟨a, vs, rfl, hr, hq⟩ := h
        exact ⟨a, vs, rfl, hr.trunc hf, frzL_ok (fun x y v q1 q2 => ih top x y m v hm q1 q2) q hq⟩
    | wtp xs =>
      unfold frz at e
      by_cases hl : limL 0 xs = true
      · rw [if_pos hl] at e
        cases e
        exact pass _ hl h
      rw [if_neg hl] at e
      cases q : frzL (frz hp.os f d top) xs with
      | none => rw [q] at e; cases e
      | some ys =>
        rw [q] at e; cases e
        unfold Rep at h ⊢
        obtain ⟨a, vs, rfl, hr, hq⟩ := h
        exact ⟨a, vs, rfl, hr.imp (insU.trunc hf) id, frzL_ok (fun x y v q1 q2 => ih top x y m v hm q1 q2) q hq⟩
    | non => unfold frz at e; cases e; exact pass _ rfl h
    | bl _ => unfold frz at e; cases e; exact pass _ rfl h
    | int _ => unfold frz at e; cases e; exact pass _ rfl h
    | str _ => unfold frz at e; cases e; exact pass _ rfl h
    | wdc _ => unfold frz at e; cases e; exact pass _ rfl h
    | lst _ => unfold frz at e; cases e; exact pass _ rfl h
    | dct _ _ => unfold frz at e; cases e; exact pass _ rfl h
    | ins _ _ => unfold frz at e; cases e; exact pass _ rfl h
theorem frzV_ok (r : SRh Γ ρ F hp H) (hf : f ≤ hp.N) {x y : CV} {v : V} (e : frzV hp.os f x = some y) (h : Rep Γ ρ hp.N H hp.N x v) : Rep Γ ρ f H f y v := by
  unfold frzV at e
  split at e
  · rename_i hl
    cases e
    exact Rep.trunc hf x (.inr hl) h
  · exact frz_ok r hf 16 true x y hp.N v (Nat.le_refl _) e h
/-- behind a scope: the young objects are no longer held -/
def Hc.cut (hp : Hc) (fl N : Nat) : Hc := ⟨fl, hp.os.take N⟩
theorem Hc.cut_N {hp : Hc} {fl N : Nat} (h : N ≤ hp.N) : (hp.cut fl N).N = N := by
  show (hp.os.take N).length = N
  rw [List.length_take]; exact Nat.min_eq_left h
theorem SRh.cut {hp' : Hc} {N fl : Nat} (r : SRh Γ ρ (N :: F) hp' H) (hN : N ≤ hp'.N) (hfl : fl ≤ N) (hF : ∀ f ∈ F, f ≤ fl) : SRh Γ ρ F (hp'.cut fl N) H := by
  refine ⟨fun i j hi hj e => ?_, r.hidt, fun i o e => ?_, ?_, fun f hf => ⟨hF f hf, fun i o hi e => ?_⟩, r.tab⟩
  · rw [Hc.cut_N hN] at hi hj
    exact r.inj i j (Nat.lt_of_lt_of_le hi (Nat.add_le_add_left hN _)) (Nat.lt_of_lt_of_le hj (Nat.add_le_add_left hN _)) e
  · rw [Hc.cut_N hN]
    have z : (hp'.os.take N)[i]? = some o := e
    have hi : i < N := by
      have := (List.getElem?_eq_some_iff.mp z).1
      rw [List.length_take] at this
      exact Nat.lt_of_lt_of_le this (Nat.min_le_left _ _)
    rw [List.getElem?_take_of_lt hi] at z
    have q := r.obj i o z
    have l := (r.fls N List.mem_cons_self).2 i o hi z
    cases o with
    | lst xs =>
      obtain ⟨vs, e1, q1⟩ := q
      exact ⟨vs, e1, Reps.trunc hN xs (.inr l) q1⟩
    | dic t kvs =>
      cases t with
      | false =>
        obtain ⟨vs, e1, q1⟩ := q
        exact ⟨vs, e1, RepK.trunc hN kvs (.inr l) q1⟩
      | true =>
        obtain ⟨vs, e1, q1⟩ := q
        exact ⟨vs, e1, RepT.trunc hN kvs (.inr l) q1⟩
    | ins c fs =>
      obtain ⟨dx, vs, e1, q1⟩ := q
      exact ⟨dx, vs, e1, RepF.trunc hN fs (.inr l) q1⟩
  · rw [Hc.cut_N hN]; exact hfl
  · have z : (hp'.os.take N)[i]? = some o := e
    have hi' : i < N := by
      have := (List.getElem?_eq_some_iff.mp z).1
      rw [List.length_take] at this
      exact Nat.lt_of_lt_of_le this (Nat.min_le_left _ _)
    rw [List.getElem?_take_of_lt hi'] at z
    exact (r.fls f (List.mem_cons_of_mem _ hf)).2 i o hi z
end
end Bl

/-! Own layer, part C: readings of clean computations. -/
namespace Bl
open PySem PySem.Spec PyProof.Rows L2

abbrev M (α : Type) := En → Hc → R α
abbrev Fn := List CV → Hc → R CV
inductive Fl where
  | nx (env : En) | rt (v : CV) | bk (env : En) | ct (env : En) | ex (c : Nat) (fs : List (Nat × CV)) (env : En)
inductive RS where
  | ok (f : Fl) (h : Hc) | stuck
abbrev MS := En → Hc → RS

structure SRe (Γ : Gx) (ρ : Rh) (N : Nat) (H : Hp) (σ : L2.St) (env : En) : Prop where
  len : σ.length = env.length
  get : ∀ (i : Nat) (v : CV), env[i]? = some (some v) → ∃ x : V, σ[i]? = some (some x) ∧ Rep Γ ρ N H N v x
def ExcR (Γ : Gx) (ρ : Rh) (N : Nat) (H : Hp) (fs : List (Nat × CV)) (d : Option Addr) : Prop :=
  (fs = [] ∧ d = none) ∨ ∃ a ds, d = some a ∧ H a = some (.xd ds) ∧ RepF Γ ρ N H 0 fs ds
abbrev Re (α β : Type) := Rh → Nat → Hp → α → β → Prop
abbrev reV (Γ : Gx) : Re CV V := fun ρ N H v x => Rep Γ ρ N H N v x
abbrev reA (Γ : Gx) : Re (List CV) (List V) := fun ρ N H v x => Reps Γ ρ N H N v x
abbrev reB : Re Bool Bool := fun _ _ _ b c => b = c

def Post {α β : Type} (Γ : Gx) (F : List Nat) (W : WX) (σ : L2.St) (ρ : Rh) (N : Nat) (H : Hp) (re : Re α β) (r : R α) (Q : β → Hp → Prop) : Prop := match r with
  | .ok v hp' => ∀ ρ' H' x, Step ρ N H ρ' hp'.N H' → SRh Γ ρ' F hp' H' → re ρ' hp'.N H' v x → Q x H'
  | .exc c fs hp' => ∀ ρ' H' d, Step ρ N H ρ' hp'.N H' → SRh Γ ρ' F hp' H' → ExcR Γ ρ' hp'.N H' fs d → W (.ref (Γ.cl c)) d σ H'
  | .stuck => False
def rd {α β : Type} (Γ : Gx) (W : WX) (re : Re α β) (m : M α) : L2.St → Hp → (β → Hp → Prop) → Prop := fun σ H Q =>
  ∃ ρ F hp env, SRh Γ ρ F hp H ∧ SRe Γ ρ hp.N H σ env ∧ Post Γ F W σ ρ hp.N H re (m env hp) Q

section
variable {Γ : Gx} {W : WX} {F : List Nat} {σ : L2.St} {ρ ρ' : Rh} {N N' : Nat} {H H' : Hp} {env : En} {hp : Hc}
theorem SRe.mono (h : SRe Γ ρ N H σ env) (st : Step ρ N H ρ' N' H') : SRe Γ ρ' N' H' σ env :=
  ⟨h.len, fun i v e => let ⟨x, h1, h2⟩ := h.get i v e; ⟨x, h1, h2.mono st (Nat.le_refl _) st.le⟩⟩
theorem Post.step {α β : Type} {re : Re α β} {r : R α} {Q : β → Hp → Prop} (st : Step ρ N H ρ' N' H') (h : Post Γ F W σ ρ N H re r Q) : Post Γ F W σ ρ' N' H' re r Q := by
  cases r with
  | ok v hp' => exact fun ρ2 H2 x s r e => h ρ2 H2 x (st.trans s) r e
  | exc c fs hp' => exact fun ρ2 H2 d s r e => h ρ2 H2 d (st.trans s) r e
  | stuck => exact h
theorem Post.bind {α β γ δ : Type} {re : Re α β} {re2 : Re γ δ} {r : R α} {f : α → Hc → R γ} {Q : δ → Hp → Prop} (h : Post Γ F W σ ρ N H re2 (r.bind f) Q) :
    Post Γ F W σ ρ N H re r (fun x H1 => ∃ ρ1 hp1 a, Step ρ N H ρ1 hp1.N H1 ∧ SRh Γ ρ1 F hp1 H1 ∧ re ρ1 hp1.N H1 a x ∧ Post Γ F W σ ρ1 hp1.N H1 re2 (f a hp1) Q) := by
  cases r with
  | ok v hp' => exact fun ρ' H' x s r e => ⟨ρ', hp', v, s, r, e, Post.step s h⟩
  | exc c fs hp' => exact h
  | stuck => exact h
/-- the value is there -/
theorem Post.ok {α β : Type} {re : Re α β} {v : α} {x : β} {Q : β → Hp → Prop} (h : Post Γ F W σ ρ hp.N H re (.ok v hp) Q) (r : SRh Γ ρ F hp H) (e : re ρ hp.N H v x) : Q x H := h ρ H x Step.refl r e
end

/-- what is needed of the context -/
class Sx (X : Cx) (Γ : outParam Gx) (W : outParam WX) (k : outParam Nat) : Prop where
  K : X.K = Γ.K
  calm : X.calm = true
  nd : X.N.Nodup
  room : Room k X.A
  tk : Takes X W

abbrev SimE (X : Cx) (Γ : Gx) (W : WX) (e : Expr) (m : M CV) : Prop := PE X e (rd Γ W (reV Γ) m)
abbrev SimT (X : Cx) (Γ : Gx) (W : WX) (e : Expr) (m : M Bool) : Prop := PT X e (rd Γ W reB m)
abbrev SimA (X : Cx) (Γ : Gx) (W : WX) (es : List Expr) (m : M (List CV)) : Prop := PA X es (rd Γ W (reA Γ) m)

section
variable {X : Cx} {Γ : Gx} {W : WX}
theorem pe_imp {e : Expr} {t t' : TE} (h : PE X e t) (i : ∀ σ H Q, t' σ H Q → t σ H Q) : PE X e t' := ⟨fun pins s σ H Q I q => h.run pins s σ H Q I (i σ H Q q)⟩
theorem pt_imp {e : Expr} {t t' : TT} (h : PT X e t) (i : ∀ σ H Q, t' σ H Q → t σ H Q) : PT X e t' := ⟨fun pins s σ H Q I q => h.run pins s σ H Q I (i σ H Q q)⟩
theorem pw_imp {e : Expr} {t t' : TT} (h : PW X e t) (i : ∀ σ H Q, t' σ H Q → t σ H Q) : PW X e t' := ⟨fun wh pins s σ H Q I q => h.run wh pins s σ H Q I (i σ H Q q)⟩
theorem pa_imp {es : List Expr} {t t' : TA} (h : PA X es t) (i : ∀ σ H Q, t' σ H Q → t σ H Q) : PA X es t' := ⟨fun pos pins s σ H Q I q => h.run pos pins s σ H Q I (i σ H Q q)⟩
theorem ps_imp {st : Stmt} {t t' : TS} (h : PS X st t) (i : ∀ D σ H, t' D σ H → t D σ H) : PS X st t' := ⟨fun pins s σ H D I q => h.run pins s σ H D I (i D σ H q)⟩
theorem pss_imp {st : List Stmt} {t t' : TS} (h : PSs X st t) (i : ∀ D σ H, t' D σ H → t D σ H) : PSs X st t' := ⟨fun pins s σ H D I q => h.run pins s σ H D I (i D σ H q)⟩

/-- the rule that all steps use: the first part's reading from the whole's -/
theorem rd_first {α β γ δ : Type} {re : Re α β} {re2 : Re γ δ} {m : M α} {f : α → M γ} {σ : L2.St} {H : Hp} {Q : δ → Hp → Prop}
    (h : rd Γ W re2 (fun env hp => (m env hp).bind fun a hp => f a env hp) σ H Q) :
    ∃ ρ F hp env, SRh Γ ρ F hp H ∧ SRe Γ ρ hp.N H σ env ∧ rd Γ W re m σ H (fun x H1 => ∃ ρ1 hp1 a, Step ρ hp.N H ρ1 hp1.N H1 ∧ SRh Γ ρ1 F hp1 H1 ∧ SRe Γ ρ1 hp1.N H1 σ env ∧ re ρ1 hp1.N H1 a x ∧ Post Γ F W σ ρ1 hp1.N H1 re2 (f a env hp1) Q) := by
  obtain ⟨ρ, F, hp, env, r, e, p⟩ := h
  refine ⟨ρ, F, hp, env, r, e, ρ, F, hp, env, r, e, ?_⟩
  have q := Post.bind (re := re) p
  revert q
  generalize m env hp = z
  intro q
  cases z with
  | ok v hp' => exact fun ρ' H' x s r' e' => let ⟨ρ1, hp1, a, s1, r1, h1, p1⟩ := q ρ' H' x s r' e'; ⟨ρ1, hp1, a, s1, r1, e.mono s1, h1, p1⟩
  | exc c fs hp' => exact q
  | stuck => exact q
theorem rd_next {α β γ δ : Type} {re : Re α β} {re2 : Re γ δ} {m : M α} {f : α → Hc → R γ} {F : List Nat} {ρ : Rh} {hp : Hc} {env : En} {σ : L2.St} {H : Hp} {Q : δ → Hp → Prop}
    (r : SRh Γ ρ F hp H) (e : SRe Γ ρ hp.N H σ env) (p : Post Γ F W σ ρ hp.N H re2 ((m env hp).bind f) Q) :
    rd Γ W re m σ H (fun x H1 => ∃ ρ1 hp1 a, Step ρ hp.N H ρ1 hp1.N H1 ∧ SRh Γ ρ1 F hp1 H1 ∧ SRe Γ ρ1 hp1.N H1 σ env ∧ re ρ1 hp1.N H1 a x ∧ Post Γ F W σ ρ1 hp1.N H1 re2 (f a hp1) Q) := by
  refine ⟨ρ, F, hp, env, r, e, ?_⟩
  have q := Post.bind (re := re) p
  revert q
  generalize m env hp = z
  intro q
  cases z with
  | ok v hp' => exact fun ρ' H' x s r' e' => let ⟨ρ1, hp1, a, s1, r1, h1, p1⟩ := q ρ' H' x s r' e'; ⟨ρ1, hp1, a, s1, r1, e.mono s1, h1, p1⟩
  | exc c fs hp' => exact q
  | stuck => exact q

/-! ### names, constants -/
def eVar (i : Nat) : M CV := fun env hp => match env[i]? with
  | some (some v) => .ok v hp
  | _ => .stuck
def eC (v : CV) : M CV := fun _ hp => .ok v hp
theorem sim_tvar {i : Nat} {e : Expr} (h : PE X e (tVar i)) : SimE X Γ W e (eVar i) := pe_imp h fun σ H Q q => by
  obtain ⟨ρ, F, hp, env, r, e, p⟩ := q
  unfold eVar at p
  split at p
  · rename_i v hv
    obtain ⟨x, hx, hr⟩ := e.get i v hv
    exact ⟨x, hx, p.ok r hr⟩
  · exact p.elim
theorem sim_c {v : CV} {x : V} {e : Expr} (h : PE X e (tC x)) (hr : ∀ ρ N H, Rep Γ ρ N H N v x) : SimE X Γ W e (eC v) := pe_imp h fun σ H Q q => by
  obtain ⟨ρ, F, hp, env, r, e, p⟩ := q
  exact p.ok r (hr _ _ _)
theorem sim_int {i : Int} {j pos} : SimE X Γ W (.Constant (.int i) j pos) (eC (.int i)) := sim_c pe_int fun _ _ _ => by unfold Rep; rfl
theorem sim_bl {i : Bool} {j pos} : SimE X Γ W (.Constant (.bool i) j pos) (eC (.bl i)) := sim_c pe_bl fun _ _ _ => by unfold Rep; rfl
theorem sim_non {j pos} : SimE X Γ W (.Constant .none j pos) (eC .non) := sim_c pe_non fun _ _ _ => by unfold Rep; rfl
theorem sim_str {x : Str} {s : List Nat} {j pos} (h : x = sOf s := by rfl) : SimE X Γ W (.Constant (.str x) j pos) (eC (.str s)) := sim_c pe_str fun _ _ _ => by unfold Rep; rw [h]

/-! ### two operands -/
def e2 (f : CV → CV → Hc → R CV) (a b : M CV) : M CV := fun env hp => (a env hp).bind fun x hp => (b env hp).bind fun y hp => f x y hp
/-- a clean operation and the reading of the library's -/
def VOp (Γ : Gx) (W : WX) (r : R2) (f : CV → CV → Hc → R CV) : Prop := ∀ (σ : L2.St) (ρ : Rh) (F : List Nat) (hp : Hc) (H : Hp) (a b : CV) (x y : V) (Q : VK),
  SRh Γ ρ F hp H → Rep Γ ρ hp.N H hp.N a x → Rep Γ ρ hp.N H hp.N b y → Post Γ F W σ ρ hp.N H (reV Γ) (f a b hp) Q → r x y H Q
theorem rd_mono {α β : Type} {re : Re α β} {m : M α} {σ : L2.St} {H : Hp} {Q Q' : β → Hp → Prop} (h : rd Γ W re m σ H Q) (i : ∀ x H, Q x H → Q' x H) : rd Γ W re m σ H Q' := by
  obtain ⟨ρ, F, hp, env, r, e, p⟩ := h
  refine ⟨ρ, F, hp, env, r, e, ?_⟩
  revert p
  generalize m env hp = z
  intro p
  cases z with
  | ok v hp' => exact fun ρ' H' x s r e => i x H' (p ρ' H' x s r e)
  | exc c fs hp' => exact p
  | stuck => exact p
theorem e2_op {r : R2} {f : CV → CV → Hc → R CV} (v : VOp Γ W r f) {ma mb : M CV} {σ : L2.St} {H : Hp} {Q : VK} (h : rd Γ W (reV Γ) (e2 f ma mb) σ H Q) : tOp r (rd Γ W (reV Γ) ma) (rd Γ W (reV Γ) mb) σ H Q := by
  obtain ⟨ρ, F, hp, env, r0, e0, p⟩ := h
  refine rd_mono (rd_next (re := reV Γ) r0 e0 p) fun x H1 ⟨ρ1, hp1, a, s1, r1, e1, h1, p1⟩ => ?_
  refine rd_mono (rd_next (re := reV Γ) r1 e1 p1) fun y H2 ⟨ρ2, hp2, b, s2, r2, e2, h2, p2⟩ => ?_
  exact v σ ρ2 F hp2 H2 a b x y Q r2 (h1.mono s2 (Nat.le_refl _) s2.le) h2 p2
end
end Bl

/-! Own layer, part D: operators, comparisons, tests. -/
namespace Bl
open PySem PySem.Spec PyProof.Rows L2
section
variable {X : Cx} {Γ : Gx} {W : WX} {k : Nat}
theorem repI {ρ N H m i} : Rep Γ ρ N H m (.int i) (.int i) := by unfold Rep; rfl
theorem repB {ρ N H m i} : Rep Γ ρ N H m (.bl i) (.bl i) := by unfold Rep; rfl
theorem repN {ρ N H m} : Rep Γ ρ N H m .non .non := by unfold Rep; rfl
theorem repS {ρ N H m s} : Rep Γ ρ N H m (.str s) (.str (sOf s)) := by unfold Rep; rfl
/-- ints, some condition -/
def vI (g : Int → Int → CV) : CV → CV → Hc → R CV
  | .int i, .int j, hp => .ok (g i j) hp
  | _, _, _ => .stuck
def vIC (C : Int → Int → Bool) (g : Int → Int → CV) : CV → CV → Hc → R CV
  | .int i, .int j, hp => if C i j = true then .ok (g i j) hp else .stuck
  | _, _, _ => .stuck
theorem vop_I {g : Int → Int → CV} {gv : Int → Int → V} (hg : ∀ i j ρ N H, Rep Γ ρ N H N (g i j) (gv i j)) : VOp Γ W (rI0 gv) (vI g) := by
  intro σ ρ F hp H a b x y Q r ra rb p
  unfold vI at p
  split at p
  · unfold Rep at ra rb
    subst ra rb
    exact ⟨_, _, rfl, rfl, p.ok r (hg _ _ _ _ _)⟩
  · exact p.elim
theorem vop_IC {C : Int → Int → Bool} {Cp : Int → Int → Prop} {g : Int → Int → CV} {gv : Int → Int → V} (hC : ∀ i j, C i j = true → Cp i j) (hg : ∀ i j ρ N H, Rep Γ ρ N H N (g i j) (gv i j)) : VOp Γ W (rI Cp gv) (vIC C g) := by
  intro σ ρ F hp H a b x y Q r ra rb p
  unfold vIC at p
  split at p
  · unfold Rep at ra rb
    subst ra rb
    split at p
    · rename_i hc
      exact ⟨_, _, rfl, rfl, hC _ _ hc, p.ok r (hg _ _ _ _ _)⟩
    · exact p.elim
  · exact p.elim
def vSub := vI fun i j => .int (i - j)
def vLt := vI fun i j => .bl (decide (i < j))
def vLe := vI fun i j => .bl (decide (i ≤ j))
def vGt := vI fun i j => .bl (decide (j < i))
def vGe := vI fun i j => .bl (decide (j ≤ i))
def cMul (i j : Int) : Bool := (decide (-(2 ^ 64) < i) && decide (i < 2 ^ 64)) || (decide (-(2 ^ 64) < j) && decide (j < 2 ^ 64))
def vMul := vIC cMul fun i j => .int (i * j)
def cDiv (_ j : Int) : Bool := decide (0 < j) && decide (j < 1073741824)
def vDiv := vIC cDiv fun i j => .int (i / j)
def cMod (_ j : Int) : Bool := decide (0 < j)
def vMod := vIC cMod fun i j => .int (i % j)
def cPow (i j : Int) : Bool := decide (0 ≤ j) && decide (j ≤ 1000000) && decide (i.natAbs < 2 ^ 64)
def vPow := vIC cPow fun i j => .int (i ^ j.toNat)
/-- an operator with its clean operation -/
def OpC (X : Cx) (Γ : Gx) (W : WX) (f : Value → Value → Sem Value) (v : CV → CV → Hc → R CV) : Prop := ∃ r, OpR X f r ∧ VOp Γ W r v
theorem oc_sub : OpC X Γ W (binaryOp .Sub) vSub := ⟨_, op_sub, vop_I fun _ _ _ _ _ => repI⟩
theorem oc_mul : OpC X Γ W (binaryOp .Mult) vMul := ⟨_, op_mul, vop_IC (fun i j h => by
  unfold cMul at h
  simp only [Bool.or_eq_true, Bool.and_eq_true, decide_eq_true_eq] at h
  exact h) fun _ _ _ _ _ => repI⟩
theorem oc_div : OpC X Γ W (binaryOp .FloorDiv) vDiv := ⟨_, op_fdiv, vop_IC (fun i j h => by
  unfold cDiv at h
  simp only [Bool.and_eq_true, decide_eq_true_eq] at h
  exact h) fun _ _ _ _ _ => repI⟩
theorem oc_mod : OpC X Γ W (binaryOp .Mod) vMod := ⟨_, op_mod, vop_IC (fun i j h => of_decide_eq_true h) fun _ _ _ _ _ => repI⟩
theorem oc_pow : OpC X Γ W (binaryOp .Pow) vPow := ⟨_, op_pow, vop_IC (fun i j h => by
  unfold cPow at h
  simp only [Bool.and_eq_true, decide_eq_true_eq] at h
  exact ⟨h.1.1, h.1.2, h.2⟩) fun _ _ _ _ _ => repI⟩
theorem oc_lt : OpC X Γ W (compareOp .Lt) vLt := ⟨_, op_lt, vop_I fun _ _ _ _ _ => repB⟩
theorem oc_le : OpC X Γ W (compareOp .LtE) vLe := ⟨_, op_le, vop_I fun _ _ _ _ _ => repB⟩
theorem oc_gt : OpC X Γ W (compareOp .Gt) vGt := ⟨_, op_gt, vop_I fun _ _ _ _ _ => repB⟩
theorem oc_ge : OpC X Γ W (compareOp .GtE) vGe := ⟨_, op_ge, vop_I fun _ _ _ _ _ => repB⟩

/-! ### plus: ints, texts, lists, tuples -/
theorem sqT_of {ρ N H a vs} (h : insU ρ N H a (.tup vs)) : SqT Γ.K H a vs := .inl (.inl h.2)
theorem sqT_wr {ρ N H a vs} (h : insU ρ N H a (.tup vs) ∨ WrT Γ.K a vs) : SqT Γ.K H a vs := h.elim sqT_of .inr
theorem sqL_of {ρ N H a vs} (h : RdU ρ N H a (.lst vs) ∨ WrL Γ.K a vs) : SqL Γ.K H a vs := h.imp (fun q => q.2) id
theorem Reps.len {ρ N H m} : ∀ {xs : List CV} {vs : List V}, Reps Γ ρ N H m xs vs → xs.length = vs.length
  | [], vs, h => by unfold Reps at h; subst h; rfl
  | x :: xs, vs, h => by
    unfold Reps at h
    obtain ⟨v, r, rfl, _, h2⟩ := h
    rw [List.length_cons, List.length_cons, Reps.len h2]
theorem Reps.app {ρ N H m} : ∀ {xs ys : List CV} {vs ws : List V}, Reps Γ ρ N H m xs vs → Reps Γ ρ N H m ys ws → Reps Γ ρ N H m (xs ++ ys) (vs ++ ws)
  | [], ys, vs, ws, h, h' => by unfold Reps at h; subst h; exact h'
  | x :: xs, ys, vs, ws, h, h' => by
    unfold Reps at h
    obtain ⟨v, r, rfl, h1, h2⟩ := h
    show Reps Γ ρ N H m (x :: (xs ++ ys)) (v :: (r ++ ws))
    unfold Reps
    exact ⟨v, _, rfl, h1, Reps.app h2 h'⟩
theorem Reps.get {ρ N H m} : ∀ {xs : List CV} {vs : List V} {i : Nat} {x : CV}, Reps Γ ρ N H m xs vs → xs[i]? = some x → ∃ v, vs[i]? = some v ∧ Rep Γ ρ N H m x v
  | [], vs, i, x, h, e => by simp at e
  | y :: xs, vs, 0, x, h, e => by
    unfold Reps at h
    obtain ⟨v, r, rfl, h1, h2⟩ := h
    simp at e; subst e
    exact ⟨v, rfl, h1⟩
  | y :: xs, vs, i + 1, x, h, e => by
    unfold Reps at h
    obtain ⟨v, r, rfl, h1, h2⟩ := h
    obtain ⟨w, e1, q⟩ := Reps.get h2 (i := i) (by simpa using e)
    exact ⟨w, by simpa using e1, q⟩
theorem Reps.none {ρ N H m} {xs : List CV} {vs : List V} {i : Nat} (h : Reps Γ ρ N H m xs vs) (e : xs[i]? = none) : vs.length ≤ i := by
  rw [← h.len]; exact List.getElem?_eq_none_iff.mp e
theorem Reps.one {ρ N H m} {x : CV} {vs : List V} (h : Reps Γ ρ N H m [x] vs) : ∃ v, vs = [v] ∧ Rep Γ ρ N H m x v := by
  unfold Reps at h
  obtain ⟨v, r, rfl, h1, h2⟩ := h
  unfold Reps at h2; subst h2
  exact ⟨v, rfl, h1⟩
theorem reps1 {ρ N H m} {x : CV} {v : V} (h : Rep Γ ρ N H m x v) : Reps Γ ρ N H m [x] [v] := by
  unfold Reps; exact ⟨v, [], rfl, h, by unfold Reps; rfl⟩
/-- a new tuple -/
theorem rep_newT {ρ : Rh} {F hp H p xs vs} (r : SRh Γ ρ F hp H) (h : H p = none) (q : Reps Γ ρ hp.N H hp.N xs vs) : Rep Γ ρ hp.N (upd H p (.tup vs)) hp.N (.tup xs) (.ref p) := by
  unfold Rep
  exact ⟨p, vs, rfl, ⟨r.fresh h, upd_same⟩, q.mono (step_new h) (Nat.le_refl _) (Nat.le_refl _)⟩
/-- a new list of the clean heap -/
theorem srh_newL {ρ : Rh} {F hp H p xs vs} (r : SRh Γ ρ F hp H) (h : H p = none) (q : Reps Γ ρ hp.N H hp.N xs vs) :
    SRh Γ (ext ρ hp.N p) F (hp.push (.lst xs)) (upd H p (.lst vs)) :=
  r.alloc h ⟨vs, upd_same, q.mono (step_alloc h) (Nat.le_refl _) (Nat.le_succ _)⟩
theorem rep_ref {ρ : Rh} {N p H} : Rep Γ (ext ρ N p) (N + 1) H (N + 1) (.ref N) (.ref p) := by
  unfold Rep
  exact ⟨Nat.lt_succ_self _, by rw [ext_at]⟩
def okLen (n : Nat) : Bool := decide (n ≤ 16777216)
theorem okLen_le {n : Nat} (h : okLen n = true) : n ≤ sizeLine := by rw [sizeLine_eq]; exact of_decide_eq_true h
def newL (xs : List CV) (hp : Hc) : R CV := if okLen xs.length = true then .ok (.ref hp.N) (hp.push (.lst xs)) else .stuck
theorem post_newL {σ ρ F hp H xs vs p} {Q : VK} (r : SRh Γ ρ F hp H) (q : Reps Γ ρ hp.N H hp.N xs vs) (h : H p = none) (w : Post Γ F W σ ρ hp.N H (reV Γ) (newL xs hp) Q) : Q (.ref p) (upd H p (.lst vs)) := by
  unfold newL at w
  split at w
  · refine w (ext ρ hp.N p) _ _ ?_ (srh_newL r h q) ?_
    · rw [Hc.push_N]; exact step_alloc h
    · rw [Hc.push_N]; exact rep_ref
  · exact w.elim
theorem newL_len {σ ρ F hp H xs N} {Q : VK} (w : Post Γ F W σ ρ N H (reV Γ) (newL xs hp) Q) : xs.length ≤ sizeLine := by
  unfold newL at w
  split at w
  · rename_i h; exact okLen_le h
  · exact w.elim
def listAt (hp : Hc) : CV → Option (List CV)
  | .lst xs => some xs
  | .ref n => match hp.os[n]? with
    | some (.lst xs) => some xs
    | _ => none
  | _ => none
theorem listAt_ok {ρ F hp H x xs v} (r : SRh Γ ρ F hp H) (h : Rep Γ ρ hp.N H hp.N x v) (e : listAt hp x = some xs) : ∃ a vs, v = .ref a ∧ SqL Γ.K H a vs ∧ Reps Γ ρ hp.N H hp.N xs vs := by
  unfold listAt at e
  split at e
  · cases e
    unfold Rep at h
    obtain ⟨a, vs, rfl, h1, h2⟩ := h
    exact ⟨a, vs, rfl, sqL_of h1, h2.mono Step.refl (Nat.zero_le _) (Nat.zero_le _)⟩
  · rename_i n
    split at e
    · rename_i ys hy
      cases e
      unfold Rep at h
      obtain ⟨vs, h1, h2⟩ := r.obj n _ hy
      exact ⟨ρ n, vs, h.2, .inl (.inl h1), h2⟩
    · cases e
  · cases e
/-- list + list, whatever holds them -/
theorem op_catQ : OpR X (binaryOp .Add) (fun x y H Q => ∃ l b xs zs, x = .ref l ∧ y = .ref b ∧ SqL X.K H l xs ∧ SqL X.K H b zs ∧ xs.length + zs.length ≤ sizeLine ∧ ∀ p, H p = none → Q (.ref p) (upd H p (.lst (xs ++ zs)))) := by
  intro pins s σ H x y v u Q I rx ry h
  obtain ⟨l, b, xs, zs, rfl, rfl, hH, hB, hz, q⟩ := h
  cases rx
  cases ry
  obtain ⟨its, r, pl, hl⟩ := I.list hH
  obtain ⟨its2, r2, pl2, hl2⟩ := I.list hB
  obtain ⟨⟨cls, dd, data, sl⟩, ho, hc, n, hd⟩ := pl.isList
  obtain ⟨⟨cls2, dd2, data2, sl2⟩, ho2, hc2, n2, hd2⟩ := pl2.isList
  simp only at hc hd hc2 hd2
  subst hc hd hc2 hd2
  have ea : its.toArray ++ its2.toArray = (its ++ its2).toArray := by simp
  have hs : its.toArray.size + its2.toArray.size ≤ sizeLine := by
    rw [List.size_toArray, List.size_toArray, ← r.length, ← r2.length]; exact hz
  refine concat_meets ⟨_, ho, rfl⟩ ⟨_, ho2, rfl⟩ noFill_list_add seq_list_add PySem.F.slot_list_add PySem.F.entry_list_add (PySem.F.args_list_add_2 _ _) (list_addW l b its.toArray its2.toArray n n2 dd dd2 sl sl2 hs) ⟨ho, ho2, ?_⟩
  rw [ea]
  exact ⟨.ref _, _, I.lnew (t' := s.toks) (r.append r2) (by rw [List.length_append]; omega), rfl, q _ I.fresh⟩
/-- the items of a tuple -/
def tupItems : CV → Option (List CV)
  | .tup xs => some xs
  | .wtp xs => some xs
  | _ => none
theorem tupItems_ok {ρ N H m x xs v} (h : Rep Γ ρ N H m x v) (e : tupItems x = some xs) : ∃ a vs, v = .ref a ∧ SqT Γ.K H a vs ∧ Reps Γ ρ N H m xs vs := by
  unfold tupItems at e
  split at e
  · cases e
    unfold Rep at h
    obtain ⟨a, vs, rfl, h1, h2⟩ := h
    exact ⟨a, vs, rfl, sqT_of h1, h2⟩
  · cases e
    unfold Rep at h
    obtain ⟨a, vs, rfl, h1, h2⟩ := h
    exact ⟨a, vs, rfl, sqT_wr h1, h2⟩
  · cases e
def vAdd : CV → CV → Hc → R CV
  | .int i, .int j, hp => .ok (.int (i + j)) hp
  | .str a, .str b, hp => if okLen (a.length + b.length) = true then .ok (.str (a ++ b)) hp else .stuck
  | a, b, hp => match tupItems a, tupItems b with
    | some xs, some ys => if okLen (xs.length + ys.length) = true then (if xs.isEmpty then .ok b hp else if ys.isEmpty then .ok a hp else .ok (.tup (xs ++ ys)) hp) else .stuck
    | _, _ => match listAt hp a, listAt hp b with
      | some xs, some ys => newL (xs ++ ys) hp
      | _, _ => .stuck
theorem reps_nil {ρ N H m} {xs : List CV} {vs : List V} (h : Reps Γ ρ N H m xs vs) : xs.isEmpty = vs.isEmpty := by
  have l := h.len
  cases xs <;> cases vs <;> simp at l ⊢
theorem sOf_app (a b : List Nat) : sOf (a ++ b) = sOf a ++ sOf b := by
  show (⟨(a ++ b).toArray⟩ : Str) = ⟨a.toArray ++ b.toArray⟩
  simp
theorem sOf_len (a : List Nat) : (sOf a).length = a.length := by simp [sOf, Str.length]
theorem oc_add [S : Sx X Γ W k] : OpC X Γ W (binaryOp .Add) vAdd := by
  refine ⟨_, ((op_add.or op_add_str).or op_catA).or op_catQ, ?_⟩
  intro σ ρ F hp H a b x y Q r ra rb p
  unfold vAdd at p
  split at p
  · unfold Rep at ra rb
    subst ra rb
    exact .inl (.inl (.inl ⟨_, _, rfl, rfl, p.ok r repI⟩))
  · unfold Rep at ra rb
    subst ra rb
    split at p
    · rename_i h
      refine .inl (.inl (.inr ⟨_, _, rfl, rfl, ?_, ?_⟩))
      · rw [sOf_len, sOf_len]; exact okLen_le h
      · have q := p.ok r repS
        rwa [sOf_app] at q
    · exact p.elim
  · split at p
    · rename_i xs ys e1 e2
      split at p
      · rename_i hl
        obtain ⟨p1, vs, rfl, a1, q1⟩ := tupItems_ok ra e1
        obtain ⟨p2, ws, rfl, a2, q2⟩ := tupItems_ok rb e2
        refine .inl (.inr ⟨p1, p2, vs, ws, rfl, rfl, S.K ▸ a1, S.K ▸ a2, ?_, ?_⟩)
        · rw [← q1.len, ← q2.len]; exact okLen_le hl
        · cases xs with
          | nil =>
            have e1' := reps_nil q1
            cases vs with
            | cons _ _ => cases e1'
            | nil => exact ⟨fun _ => p.ok r rb, fun h => absurd rfl h, fun h => absurd rfl h⟩
          | cons x xs =>
            have e1' := reps_nil q1
            cases vs with
            | nil => cases e1'
            | cons v vs =>
              refine ⟨fun h => (by cases h), ?_⟩
              cases ys with
              | nil =>
                have e2' := reps_nil q2
                cases ws with
                | cons _ _ => cases e2'
                | nil => exact ⟨fun _ _ => p.ok r ra, fun _ h => absurd rfl h⟩
              | cons y ys =>
                have e2' := reps_nil q2
                cases ws with
                | nil => cases e2'
                | cons w ws => exact ⟨fun _ h => (by cases h), fun _ _ l hl => p ρ _ _ (step_new hl) (r.new hl) (rep_newT r hl (q1.app q2))⟩
      · exact p.elim
    · split at p
      · rename_i xs ys e1 e2
        obtain ⟨n1, vs, rfl, h1, q1⟩ := listAt_ok r ra e1
        obtain ⟨n2, ws, rfl, h2, q2⟩ := listAt_ok r rb e2
        refine .inr ⟨_, _, vs, ws, rfl, rfl, S.K ▸ h1, S.K ▸ h2, ?_, fun p3 h3 => ?_⟩
        · have l := newL_len p
          rw [List.length_append, q1.len, q2.len] at l
          exact l
        · exact post_newL r (q1.app q2) h3 p
      · exact p.elim
end
end Bl

/-! Own layer, part E: equality, membership, indexing; tests; displays. -/
namespace Bl
open PySem PySem.Spec PyProof.Rows L2

/-! ### data -/
def pyL (g : CV → Option PyData) : List CV → Option (List PyData)
  | [] => some []
  | x :: r => match g x, pyL g r with
    | some y, some s => some (y :: s)
    | _, _ => none
def toPy (os : List CO) : Nat → CV → Option PyData
  | 0, _ => none
  | _ + 1, .non => some .none
  | _ + 1, .bl b => some (.bool b)
  | _ + 1, .int i => some (.int i)
  | _ + 1, .str s => some (.str (sOf s))
  | d + 1, .tup xs => (pyL (toPy os d) xs).map .tuple
  | d + 1, .wtp xs => (pyL (toPy os d) xs).map .tuple
  | d + 1, .lst xs => (pyL (toPy os d) xs).map .list
  | d + 1, .ref n => match os[n]? with
    | some (.lst xs) => (pyL (toPy os d) xs).map .list
    | _ => none
  | _ + 1, _ => none
section
variable {X : Cx} {Γ : Gx} {W : WX} {k : Nat}
theorem pyL_ok {ρ N H m} {g : CV → Option PyData} (hg : ∀ x d v, g x = some d → Rep Γ ρ N H m x v → Dp Γ.K H v d) : ∀ {xs : List CV} {ds : List PyData} {vs : List V}, pyL g xs = some ds → Reps Γ ρ N H m xs vs → DpAll Γ.K H vs ds
  | [], ds, vs, e, h => by
    unfold pyL at e; cases e
    unfold Reps at h; subst h
    exact .nil
  | x :: xs, ds, vs, e, h => by
    unfold pyL at e
    split at e
    · rename_i y s e1 e2
      cases e
      unfold Reps at h
      obtain ⟨v, r, rfl, h1, h2⟩ := h
      exact .cons (hg _ _ _ e1 h1) (pyL_ok hg e2 h2)
    · cases e
theorem toPy_ok {ρ F hp H} (r : SRh Γ ρ F hp H) : ∀ (d : Nat) (m : Nat) (x : CV) (y : PyData) (v : V), m ≤ hp.N → toPy hp.os d x = some y → Rep Γ ρ hp.N H m x v → Dp Γ.K H v y := by
  intro d
  induction d with
  | zero => intro m x y v _ e; simp [toPy] at e
  | succ d ih =>
    intro m x y v hm e h
    cases x with
    | non => simp only [toPy] at e; cases e; unfold Rep at h; subst h; exact .non
    | bl b => simp only [toPy] at e; cases e; unfold Rep at h; subst h; exact .bl b
    | int i => simp only [toPy] at e; cases e; unfold Rep at h; subst h; exact .int i
    | str s => simp only [toPy] at e; cases e; unfold Rep at h; subst h; exact .str _
    | tup xs =>
      simp only [toPy] at e
      cases q : pyL (toPy hp.os d) xs with
      | none => rw [q] at e; cases e
      | some ds =>
        rw [q] at e; cases e
        unfold Rep at h
        obtain ⟨a, vs, rfl, hr, hq⟩ := h
        exact .tup (sqT_of hr) (pyL_ok (fun x d' v q1 q2 => ih m x d' v hm q1 q2) q hq)
    | wtp xs =>
      simp only [toPy] at e
      cases q : pyL (toPy hp.os d) xs with
      | none => rw [q] at e; cases e
      | some ds =>
        rw [q] at e; cases e
        unfold Rep at h
        obtain ⟨a, vs, rfl, hr, hq⟩ := h
        exact .tup (sqT_wr hr) (pyL_ok (fun x d' v q1 q2 => ih m x d' v hm q1 q2) q hq)
    | wdc _ => simp [toPy] at e
    | lst xs =>
      simp only [toPy] at e
      cases q : pyL (toPy hp.os d) xs with
      | none => rw [q] at e; cases e
      | some ds =>
        rw [q] at e; cases e
        unfold Rep at h
        obtain ⟨a, vs, rfl, hr, hq⟩ := h
        exact .lst (sqL_of hr) (pyL_ok (fun x d' v q1 q2 => ih 0 x d' v (Nat.zero_le _) q1 q2) q hq)
    | ref n =>
      simp only [toPy] at e
      split at e
      · rename_i xs he
        cases q : pyL (toPy hp.os d) xs with
        | none => rw [q] at e; cases e
        | some ds =>
          rw [q] at e; cases e
          unfold Rep at h
          obtain ⟨_, rfl⟩ := h
          obtain ⟨vs, h1, h2⟩ := r.obj n _ he
          exact .lst (.inl (.inl h1)) (pyL_ok (fun x d' v q1 q2 => ih hp.N x d' v (Nat.le_refl _) q1 q2) q h2)
      · cases e
    | dct _ _ => simp [toPy] at e
    | ins _ _ => simp [toPy] at e

def eqN : List Nat → List Nat → Bool
  | [], [] => true
  | a :: x, b :: y => Nat.beq a b && eqN x y
  | _, _ => false
theorem eqN_iff : ∀ {a b : List Nat}, eqN a b = true ↔ a = b
  | [], [] => by simp [eqN]
  | [], _ :: _ => by simp [eqN]
  | _ :: _, [] => by simp [eqN]
  | a :: x, b :: y => by
    unfold eqN
    rw [Bool.and_eq_true, eqN_iff, Nat.beq_eq, List.cons.injEq]
theorem eqN_dec (a b : List Nat) : eqN a b = decide (a = b) := by
  by_cases h : a = b
  · rw [decide_eq_true h]; exact eqN_iff.mpr h
  · rw [decide_eq_false h, ← Bool.not_eq_true]; exact fun q => h (eqN_iff.mp q)
theorem sOf_inj {a b : List Nat} : sOf a = sOf b ↔ a = b := by
  constructor
  · intro h
    have h1 : (sOf a).cps.toList = (sOf b).cps.toList := by rw [h]
    exact h1
  · intro h; rw [h]
/-- a scalar's answer -/
def eqS : CV → CV → Option Bool
  | .int i, .int j => some (decide (i = j))
  | .str s, .str t => some (eqN s t)
  | .bl a, .bl b => some (a == b)
  | .non, .non => some true
  | .non, .int _ => some false | .int _, .non => some false | .non, .bl _ => some false | .bl _, .non => some false | .non, .str _ => some false | .str _, .non => some false
  | .int _, .str _ => some false | .str _, .int _ => some false | .bl _, .str _ => some false | .str _, .bl _ => some false
  | _, _ => none
def eqD (os : List CO) (a b : CV) : Option Bool := match toPy os 12 a, toPy os 12 b with
  | some d, some e => if (SeqAt.shaped d && SeqAt.shaped e) = true then some (PyData.eqv d e) else none
  | _, _ => none
def eqC (os : List CO) (a b : CV) : Option Bool := match eqS a b with
  | some r => some r
  | none => eqD os a b
def vEq (neg : Bool) : CV → CV → Hc → R CV := fun a b hp => match eqC hp.os a b with
  | some r => .ok (.bl (if neg then !r else r)) hp
  | none => .stuck
theorem dec_sOf (a b : List Nat) : decide (V.str (sOf a) = V.str (sOf b)) = eqN a b := by
  rw [eqN_dec]
  by_cases h : a = b
  · rw [decide_eq_true h, h]; exact decide_eq_true rfl
  · rw [decide_eq_false h]; exact decide_eq_false fun q => h (sOf_inj.mp (V.str.inj q))
theorem eqS_ok {ρ N H m} {a b : CV} {x y : V} {r : Bool} (e : eqS a b = some r) (ha : Rep Γ ρ N H m a x) (hb : Rep Γ ρ N H m b y) : scal x y = true ∧ r = decide (x = y) := by
  cases a <;> cases b <;> simp only [eqS, Option.some.injEq, reduceCtorEq] at e <;> (unfold Rep at ha hb; subst e ha hb; refine ⟨rfl, ?_⟩) <;> first
    | rfl
    | exact (decide_eq_false (fun q => by cases q)).symm
    | exact (dec_sOf _ _).symm
    | exact dec_int.symm
    | exact dec_bl.symm
    | skip
  all_goals (rw [dec_int]; rename_i i j; by_cases h : i = j <;> simp [h])
def negB (neg b : Bool) : Bool := if neg then !b else b
theorem vop_eqS [S : Sx X Γ W k] : VOp Γ W (fun x y H Q => rEq x y H Q ∨ rEqD X.K x y H Q) (vEq false) := by
  intro σ ρ F hp H a b x y Q r ra rb p
  unfold vEq at p
  split at p
  · rename_i res e
    have q := p.ok r repB
    unfold eqC at e
    split at e
    · rename_i r' e'
      cases e
      obtain ⟨h1, h2⟩ := eqS_ok e' ra rb
      subst h2
      exact .inl ⟨h1, q⟩
    · unfold eqD at e
      split at e
      · rename_i d1 d2 e1 e2
        split at e
        · rename_i hs
          cases e
          rw [Bool.and_eq_true] at hs
          exact .inr ⟨d1, d2, S.K ▸ toPy_ok r 12 _ a d1 x (Nat.le_refl _) e1 ra, S.K ▸ toPy_ok r 12 _ b d2 y (Nat.le_refl _) e2 rb, hs.1, hs.2, q⟩
        · cases e
      · cases e
  · exact p.elim
theorem vop_neS [S : Sx X Γ W k] : VOp Γ W (fun x y H Q => rNe x y H Q ∨ rNeD X.K x y H Q) (vEq true) := by
  intro σ ρ F hp H a b x y Q r ra rb p
  unfold vEq at p
  split at p
  · rename_i res e
    have q := p.ok r repB
    unfold eqC at e
    split at e
    · rename_i r' e'
      cases e
      obtain ⟨h1, h2⟩ := eqS_ok e' ra rb
      subst h2
      exact .inl ⟨h1, q⟩
    · unfold eqD at e
      split at e
      · rename_i d1 d2 e1 e2
        split at e
        · rename_i hs
          cases e
          rw [Bool.and_eq_true] at hs
          exact .inr ⟨d1, d2, S.K ▸ toPy_ok r 12 _ a d1 x (Nat.le_refl _) e1 ra, S.K ▸ toPy_ok r 12 _ b d2 y (Nat.le_refl _) e2 rb, hs.1, hs.2, q⟩
        · cases e
      · cases e
  · exact p.elim
theorem oc_eq [S : Sx X Γ W k] : OpC X Γ W (compareOp .Eq) (vEq false) := ⟨_, op_eq.or (op_eqD S.room.units), vop_eqS⟩
theorem oc_ne [S : Sx X Γ W k] : OpC X Γ W (compareOp .NotEq) (vEq true) := ⟨_, op_ne.or (op_neD S.room.units), vop_neS⟩
/-! ### is None -/
def vIsN (neg : Bool) : CV → CV → Hc → R CV
  | a, .non, hp => match a with
    | .non => .ok (.bl (!neg)) hp
    | _ => .ok (.bl neg) hp
  | _, _, _ => .stuck
theorem rep_non {ρ N H m} {a : CV} {x : V} (h : Rep Γ ρ N H m a x) : decide (x = .non) = (match a with | .non => true | _ => false) := by
  cases a with
  | non => unfold Rep at h; subst h; rfl
  | bl _ => unfold Rep at h; subst h; rfl
  | int _ => unfold Rep at h; subst h; rfl
  | str _ => unfold Rep at h; subst h; rfl
  | ref _ => unfold Rep at h; obtain ⟨_, rfl⟩ := h; rfl
  | tup _ => unfold Rep at h; obtain ⟨_, _, rfl, _⟩ := h; rfl
  | wtp _ => unfold Rep at h; obtain ⟨_, _, rfl, _⟩ := h; rfl
  | wdc _ => unfold Rep at h; subst h; rfl
  | lst _ => unfold Rep at h; obtain ⟨_, _, rfl, _⟩ := h; rfl
  | dct t _ => cases t <;> (unfold Rep at h; obtain ⟨_, _, rfl, _⟩ := h; rfl)
  | ins _ _ => unfold Rep at h; obtain ⟨_, _, _, rfl, _⟩ := h; rfl
theorem oc_isN : OpC X Γ W (compareOp .Is) (vIsN false) := ⟨_, op_isN, fun σ ρ F hp H a b x y Q r ra rb p => by
  unfold vIsN at p
  split at p
  · unfold Rep at rb
    subst rb
    have e := rep_non ra
    refine ⟨rfl, ?_⟩
    split at p
    · rw [e]; exact p.ok r repB
    · rename_i h
      rw [e]
      split
      · rename_i z; exact absurd rfl h
      · exact p.ok r repB
  · exact p.elim⟩
theorem oc_isntN : OpC X Γ W (compareOp .IsNot) (vIsN true) := ⟨_, op_notN, fun σ ρ F hp H a b x y Q r ra rb p => by
  unfold vIsN at p
  split at p
  · unfold Rep at rb
    subst rb
    have e := rep_non ra
    refine ⟨rfl, ?_⟩
    split at p
    · rw [e]; exact p.ok r repB
    · rename_i h
      rw [e]
      split
      · rename_i z; exact absurd rfl h
      · exact p.ok r repB
  · exact p.elim⟩

/-! ### in: flat items -/
def flatC : CV → Bool
  | .non => true
  | .bl _ => true
  | .int _ => true
  | .str _ => true
  | _ => false
def eqF : CV → CV → Bool
  | .non, .non => true
  | .bl a, .bl b => a == b
  | .bl a, .int b => decide ((if a then 1 else 0) = b)
  | .int a, .bl b => decide (a = (if b then 1 else 0))
  | .int a, .int b => decide (a = b)
  | .str a, .str b => eqN a b
  | _, _ => false
theorem flat_rep {ρ N H m} {a : CV} {x : V} (f : flatC a = true) (h : Rep Γ ρ N H m a x) : flatV x = true := by
  cases a <;> simp only [flatC, Bool.false_eq_true] at f <;> (unfold Rep at h; subst h; rfl)
theorem eqF_rep {ρ N H m} {a b : CV} {x y : V} (fa : flatC a = true) (fb : flatC b = true) (ha : Rep Γ ρ N H m a x) (hb : Rep Γ ρ N H m b y) : eqF a b = eqV x y := by
  cases a <;> simp only [flatC, Bool.false_eq_true] at fa <;> cases b <;> simp only [flatC, Bool.false_eq_true] at fb <;> (unfold Rep at ha hb; subst ha hb) <;> first
    | rfl
    | (show decide _ = (_ == _); rw [Bool.beq_eq_decide_eq])
    | skip
  rename_i s t
  show eqN s t = (sOf s == sOf t)
  rw [eqN_dec, Bool.beq_eq_decide_eq]
  exact decide_eq_decide.mpr sOf_inj.symm
theorem all_flat {ρ N H m} : ∀ {xs : List CV} {vs : List V}, xs.all flatC = true → Reps Γ ρ N H m xs vs → vs.all flatV = true
  | [], vs, _, h => by unfold Reps at h; subst h; rfl
  | x :: xs, vs, f, h => by
    unfold Reps at h
    obtain ⟨v, r, rfl, h1, h2⟩ := h
    rw [List.all_cons, Bool.and_eq_true] at f ⊢
    exact ⟨flat_rep f.1 h1, all_flat f.2 h2⟩
theorem any_eqF {ρ N H m m'} {a : CV} {x : V} (fa : flatC a = true) (ha : Rep Γ ρ N H m' a x) : ∀ {xs : List CV} {vs : List V}, xs.all flatC = true → Reps Γ ρ N H m xs vs → (xs.any fun y => eqF y a) = inV x vs
  | [], vs, _, h => by unfold Reps at h; subst h; rfl
  | y :: xs, vs, f, h => by
    unfold Reps at h
    obtain ⟨v, r, rfl, h1, h2⟩ := h
    rw [List.all_cons, Bool.and_eq_true] at f
    have ih := any_eqF fa ha f.2 h2
    unfold inV at ih ⊢
    rw [List.any_cons, List.any_cons, ih]
    have e : eqF y a = eqV v x := by
      cases y <;> simp only [flatC, Bool.false_eq_true, false_and] at f <;> cases a <;> simp only [flatC, Bool.false_eq_true] at fa <;> (unfold Rep at h1 ha; subst h1 ha) <;> first
        | rfl
        | (show decide _ = (_ == _); rw [Bool.beq_eq_decide_eq])
        | skip
      rename_i s t
      show eqN s t = (sOf s == sOf t)
      rw [eqN_dec, Bool.beq_eq_decide_eq]
      exact decide_eq_decide.mpr sOf_inj.symm
    rw [e]
def seqItems (hp : Hc) : CV → Option (List CV)
  | .tup xs => some xs
  | .wtp xs => some xs
  | .lst xs => some xs
  | .ref n => match hp.os[n]? with
    | some (.lst xs) => some xs
    | _ => none
  | _ => none
theorem seqItems_ok {ρ F hp H b xs y} (r : SRh Γ ρ F hp H) (e : seqItems hp b = some xs) (h : Rep Γ ρ hp.N H hp.N b y) : ∃ p vs, y = .ref p ∧ (SqL Γ.K H p vs ∨ SqT Γ.K H p vs) ∧ Reps Γ ρ hp.N H hp.N xs vs := by
  unfold seqItems at e
  split at e
  · cases e
    unfold Rep at h
    obtain ⟨a, vs, rfl, h1, h2⟩ := h
    exact ⟨a, vs, rfl, .inr (sqT_of h1), h2⟩
  · cases e
    unfold Rep at h
    obtain ⟨a, vs, rfl, h1, h2⟩ := h
    exact ⟨a, vs, rfl, .inr (sqT_wr h1), h2⟩
  · cases e
    unfold Rep at h
    obtain ⟨a, vs, rfl, h1, h2⟩ := h
    exact ⟨a, vs, rfl, .inl (sqL_of h1), h2.mono Step.refl (Nat.zero_le _) (Nat.zero_le _)⟩
  · split at e
    · rename_i he
      cases e
      unfold Rep at h
      obtain ⟨_, rfl⟩ := h
      obtain ⟨vs, h1, h2⟩ := r.obj _ _ he
      exact ⟨_, vs, rfl, .inl (.inl (.inl h1)), h2⟩
    · cases e
  · cases e
def vInS (neg : Bool) : CV → CV → Hc → R CV := fun a b hp => match seqItems hp b with
  | some xs => if (flatC a && xs.all flatC) = true then .ok (.bl (if neg then !xs.any fun y => eqF y a else xs.any fun y => eqF y a)) hp else .stuck
  | none => .stuck
theorem vop_in [S : Sx X Γ W k] (neg : Bool) : VOp Γ W (rIn X.K neg) (vInS neg) := by
  intro σ ρ F hp H a b x y Q r ra rb p
  unfold vInS at p
  split at p
  · rename_i xs e
    split at p
    · rename_i f
      rw [Bool.and_eq_true] at f
      obtain ⟨q, vs, rfl, h1, h2⟩ := seqItems_ok r e rb
      refine ⟨q, vs, rfl, S.K ▸ h1, flat_rep f.1 ra, all_flat f.2 h2, ?_⟩
      rw [← any_eqF f.1 ra f.2 h2]
      exact p.ok r repB
    · exact p.elim
  · exact p.elim
theorem oc_inS [S : Sx X Γ W k] : OpC X Γ W (compareOp .In) (vInS false) := ⟨_, op_in_seq, vop_in false⟩
theorem oc_ninS [S : Sx X Γ W k] : OpC X Γ W (compareOp .NotIn) (vInS true) := ⟨_, op_notIn_seq, vop_in true⟩

/-! ### a[i] -/
def vIx : CV → CV → Hc → R CV
  | .str s, .int i, hp => if okLen s.length = true then (match atI s i with
    | some c => .ok (.str [c]) hp
    | none => .stuck) else .stuck
  | a, .int i, hp => match seqItems hp a with
    | some xs => match atI xs i with
      | some v => .ok v hp
      | none => .stuck
    | none => .stuck
  | _, _, _ => .stuck
theorem atI_rep {ρ N H m} {xs : List CV} {vs : List V} {i : Int} {x : CV} (h : Reps Γ ρ N H m xs vs) (e : atI xs i = some x) : ∃ v, atI vs i = some v ∧ Rep Γ ρ N H m x v := by
  unfold atI at e ⊢
  rw [← h.len]
  cases q : ixN xs.length i with
  | none => rw [q] at e; cases e
  | some j =>
    rw [q] at e
    exact h.get e
theorem vop_ix [S : Sx X Γ W k] : VOp Γ W (rIx X.K) vIx := by
  intro σ ρ F hp H a b x y Q r ra rb p
  unfold vIx at p
  split at p
  · rename_i s i
    unfold Rep at ra rb
    subst ra rb
    split at p
    · rename_i hl
      split at p
      · rename_i c hc
        refine .inr (.inr ⟨_, _, c, rfl, rfl, ?_, hc, ?_⟩)
        · rw [sOf_len]; exact okLen_le hl
        · exact p.ok r (repS (s := [c]))
      · exact p.elim
    · exact p.elim
  · split at p
    · rename_i xs e
      split at p
      · rename_i v hv
        unfold Rep at rb
        subst rb
        obtain ⟨q, vs, rfl, h1, h2⟩ := seqItems_ok r e ra
        obtain ⟨w, e1, h3⟩ := atI_rep h2 hv
        rcases h1 with h1 | h1
        · exact .inl ⟨q, vs, _, w, rfl, rfl, S.K ▸ h1, e1, p.ok r h3⟩
        · exact .inr (.inl ⟨q, vs, _, w, rfl, rfl, S.K ▸ h1, e1, p.ok r h3⟩)
      · exact p.elim
    · exact p.elim
  · exact p.elim
theorem sim_ix [S : Sx X Γ W k] {a b : Expr} {ma mb : M CV} {pos : Pos} (ha : SimE X Γ W a ma) (hb : SimE X Γ W b mb) (hs : PlainIx b := by exact fun _ _ => rfl) : SimE X Γ W (.Subscript a b pos) (e2 vIx ma mb) :=
  pe_imp (pe_ix ix_seq ha hb hs) fun _ _ _ h => e2_op vop_ix h
end
end Bl

/-! Own layer, part F: tests, and / or / not, chains, displays, arguments, calls of built-ins. -/
namespace Bl
open PySem PySem.Spec PyProof.Rows L2
section
variable {X : Cx} {Γ : Gx} {W : WX} {k : Nat} {a b c : Expr} {ma mb mc : M CV} {ta tb tc : M Bool} {pos : Pos}

theorem sim_op {op : Operator} {v : CV → CV → Hc → R CV} (o : OpC X Γ W (binaryOp op) v) (ha : SimE X Γ W a ma) (hb : SimE X Γ W b mb) : SimE X Γ W (.BinOp a op b pos) (e2 v ma mb) := by
  obtain ⟨r, h1, h2⟩ := o
  exact pe_imp (pe_op h1 ha hb) fun _ _ _ h => e2_op h2 h
theorem sim_cmp {op : CmpOp} {v : CV → CV → Hc → R CV} (o : OpC X Γ W (compareOp op) v) (ha : SimE X Γ W a ma) (hb : SimE X Γ W b mb) (hm : behindInMarks op b = false := by rfl) : SimE X Γ W (.Compare a [op] [b] pos) (e2 v ma mb) := by
  obtain ⟨r, h1, h2⟩ := o
  exact pe_imp (pe_cmpR h1 ha hb hm) fun _ _ _ h => e2_op h2 h

/-- a value as a test's answer -/
def asB : CV → Hc → R Bool
  | .bl b, hp => .ok b hp
  | _, _ => .stuck
def tV (m : M CV) : M Bool := fun env hp => (m env hp).bind asB
theorem asB_ok {σ ρ F hp H v x} {Q : Bool → Hp → Prop} (r : SRh Γ ρ F hp H) (h : Rep Γ ρ hp.N H hp.N v x) (p : Post Γ F W σ ρ hp.N H reB (asB v hp) Q) : ∃ d, x = .bl d ∧ Q d H := by
  unfold asB at p
  split at p
  · unfold Rep at h; subst h
    exact ⟨_, rfl, p.ok r rfl⟩
  · exact p.elim
theorem tV_val {m : M CV} {σ H} {Q : Bool → Hp → Prop} (h : rd Γ W reB (tV m) σ H Q) : rd Γ W (reV Γ) m σ H fun x H' => ∃ d, x = .bl d ∧ Q d H' := by
  obtain ⟨ρ, F, hp, env, r0, e0, p⟩ := h
  refine rd_mono (rd_next (re := reV Γ) r0 e0 p) fun x H1 ⟨ρ1, hp1, v, s1, r1, e1, h1, p1⟩ => ?_
  exact asB_ok r1 h1 p1
theorem sim_tcmp {op : CmpOp} {v : CV → CV → Hc → R CV} (o : OpC X Γ W (compareOp op) v) (ha : SimE X Γ W a ma) (hb : SimE X Γ W b mb) (hm : behindInMarks op b = false := by rfl) : SimT X Γ W (.Compare a [op] [b] pos) (tV (e2 v ma mb)) := by
  obtain ⟨r, h1, h2⟩ := o
  exact pt_imp (pt_cmpR h1 ha hb hm) fun _ _ _ h => e2_op h2 (tV_val h)
/-- any expression whose test is its value's truth -/
theorem sim_tv (h : SimE X Γ W a ma) (he : ∀ whole, isTrue a X.env whole = (do let v ← whole; standAt a.pos; holding [v] (truthy v)) := by intro _; rfl) : SimT X Γ W a (tV ma) :=
  pt_imp (pt_val h he) fun _ _ _ q => tV_val q

/-! ### and, or, not -/
def tAnd2 (a b : M Bool) : M Bool := fun env hp => (a env hp).bind fun c hp => if c then b env hp else .ok false hp
def tOr2 (a b : M Bool) : M Bool := fun env hp => (a env hp).bind fun c hp => if c then .ok true hp else b env hp
def tNot1 (a : M Bool) : M Bool := fun env hp => (a env hp).bind fun c hp => .ok (!c) hp
abbrev SimW (X : Cx) (Γ : Gx) (W : WX) (e : Expr) (m : M Bool) : Prop := PW X e (rd Γ W reB m)
theorem sw_and1 (ha : SimT X Γ W a ta) : SimW X Γ W (.BoolOp .And [a] pos) ta := pw_and1 ha
theorem sw_or1 (ha : SimT X Γ W a ta) : SimW X Γ W (.BoolOp .Or [a] pos) ta := pw_or1 ha
theorem sw_and {rest : List Expr} (ha : SimT X Γ W a ta) (hb : SimW X Γ W (.BoolOp .And (b :: rest) pos) tb) : SimW X Γ W (.BoolOp .And (a :: b :: rest) pos) (tAnd2 ta tb) :=
  pw_imp (pw_and ha hb) fun σ H Q h => by
    obtain ⟨ρ, F, hp, env, r0, e0, p⟩ := h
    refine rd_mono (rd_next (re := reB) r0 e0 p) fun x H1 ⟨ρ1, hp1, v, s1, r1, e1, h1, p1⟩ => ?_
    cases (show v = x from h1)
    cases x with
    | true => exact ⟨ρ1, F, hp1, env, r1, e1, p1⟩
    | false => exact p1.ok r1 rfl
theorem sw_or {rest : List Expr} (ha : SimT X Γ W a ta) (hb : SimW X Γ W (.BoolOp .Or (b :: rest) pos) tb) : SimW X Γ W (.BoolOp .Or (a :: b :: rest) pos) (tOr2 ta tb) :=
  pw_imp (pw_or ha hb) fun σ H Q h => by
    obtain ⟨ρ, F, hp, env, r0, e0, p⟩ := h
    refine rd_mono (rd_next (re := reB) r0 e0 p) fun x H1 ⟨ρ1, hp1, v, s1, r1, e1, h1, p1⟩ => ?_
    cases (show v = x from h1)
    cases x with
    | true => exact p1.ok r1 rfl
    | false => exact ⟨ρ1, F, hp1, env, r1, e1, p1⟩
theorem sim_tnot (ha : SimT X Γ W a ta) : SimT X Γ W (.UnaryOp .Not a pos) (tNot1 ta) :=
  pt_imp (pt_not ha) fun σ H Q h => by
    obtain ⟨ρ, F, hp, env, r0, e0, p⟩ := h
    refine rd_mono (rd_next (re := reB) r0 e0 p) fun x H1 ⟨ρ1, hp1, v, s1, r1, e1, h1, p1⟩ => ?_
    cases (show v = x from h1)
    exact p1.ok r1 rfl
/-- .. as values -/
def eAnd2 (a b : M CV) : M CV := fun env hp => (a env hp).bind fun v hp => match v with
  | .bl true => b env hp
  | .bl false => .ok (.bl false) hp
  | _ => .stuck
def eOr2 (a b : M CV) : M CV := fun env hp => (a env hp).bind fun v hp => match v with
  | .bl false => b env hp
  | .bl true => .ok (.bl true) hp
  | _ => .stuck
def eNot1 (a : M CV) : M CV := fun env hp => (a env hp).bind fun v hp => match v with
  | .bl b => .ok (.bl (!b)) hp
  | _ => .stuck
theorem sim_b1 {op} (ha : SimE X Γ W a ma) : SimE X Γ W (.BoolOp op [a] pos) ma := pe_one ha
theorem sim_and {rest : List Expr} (ha : SimE X Γ W a ma) (hb : SimE X Γ W (.BoolOp .And (b :: rest) pos) mb) : SimE X Γ W (.BoolOp .And (a :: b :: rest) pos) (eAnd2 ma mb) :=
  pe_imp (pe_and ha hb) fun σ H Q h => by
    obtain ⟨ρ, F, hp, env, r0, e0, p⟩ := h
    refine rd_mono (rd_next (re := reV Γ) r0 e0 p) fun x H1 ⟨ρ1, hp1, v, s1, r1, e1, h1, p1⟩ => ?_
    split at p1
    · unfold Rep at h1; subst h1
      exact ⟨true, rfl, ρ1, F, hp1, env, r1, e1, p1⟩
    · unfold Rep at h1; subst h1
      exact ⟨false, rfl, p1.ok r1 repB⟩
    · exact p1.elim
theorem sim_or {rest : List Expr} (ha : SimE X Γ W a ma) (hb : SimE X Γ W (.BoolOp .Or (b :: rest) pos) mb) : SimE X Γ W (.BoolOp .Or (a :: b :: rest) pos) (eOr2 ma mb) :=
  pe_imp (pe_or ha hb) fun σ H Q h => by
    obtain ⟨ρ, F, hp, env, r0, e0, p⟩ := h
    refine rd_mono (rd_next (re := reV Γ) r0 e0 p) fun x H1 ⟨ρ1, hp1, v, s1, r1, e1, h1, p1⟩ => ?_
    split at p1
    · unfold Rep at h1; subst h1
      exact ⟨false, rfl, ρ1, F, hp1, env, r1, e1, p1⟩
    · unfold Rep at h1; subst h1
      exact ⟨true, rfl, p1.ok r1 repB⟩
    · exact p1.elim
theorem sim_not (ha : SimE X Γ W a ma) : SimE X Γ W (.UnaryOp .Not a pos) (eNot1 ma) :=
  pe_imp (pe_not ha) fun σ H Q h => by
    obtain ⟨ρ, F, hp, env, r0, e0, p⟩ := h
    refine rd_mono (rd_next (re := reV Γ) r0 e0 p) fun x H1 ⟨ρ1, hp1, v, s1, r1, e1, h1, p1⟩ => ?_
    split at p1
    · unfold Rep at h1; subst h1
      exact ⟨_, rfl, p1.ok r1 repB⟩
    · exact p1.elim
def eNeg (a : M CV) : M CV := fun env hp => (a env hp).bind fun v hp => match v with
  | .int i => .ok (.int (-i)) hp
  | _ => .stuck
theorem sim_neg (ha : SimE X Γ W a ma) : SimE X Γ W (.UnaryOp .USub a pos) (eNeg ma) :=
  pe_imp (pe_un un_neg ha) fun σ H Q h => by
    obtain ⟨ρ, F, hp, env, r0, e0, p⟩ := h
    refine rd_mono (rd_next (re := reV Γ) r0 e0 p) fun x H1 ⟨ρ1, hp1, v, s1, r1, e1, h1, p1⟩ => ?_
    split at p1
    · unfold Rep at h1; subst h1
      exact ⟨_, rfl, p1.ok r1 repI⟩
    · exact p1.elim
/-- x if t else y -/
def eIf (c : M Bool) (a b : M CV) : M CV := fun env hp => (c env hp).bind fun d hp => if d then a env hp else b env hp
theorem sim_if (hc : SimT X Γ W c tc) (ha : SimE X Γ W a ma) (hb : SimE X Γ W b mb) : SimE X Γ W (.IfExp c a b pos) (eIf tc ma mb) :=
  pe_imp (pe_ifExp hc ha hb) fun σ H Q h => by
    obtain ⟨ρ, F, hp, env, r0, e0, p⟩ := h
    refine rd_mono (rd_next (re := reB) r0 e0 p) fun x H1 ⟨ρ1, hp1, v, s1, r1, e1, h1, p1⟩ => ?_
    cases (show v = x from h1)
    cases x with
    | true => exact ⟨ρ1, F, hp1, env, r1, e1, p1⟩
    | false => exact ⟨ρ1, F, hp1, env, r1, e1, p1⟩
/-- a < b < c -/
def eChain (v v' : CV → CV → Hc → R CV) (a b c : M CV) : M CV := fun env hp => (a env hp).bind fun x hp => (b env hp).bind fun y hp => (v x y hp).bind fun z hp => match z with
  | .bl true => (c env hp).bind fun w hp => v' y w hp
  | .bl false => .ok (.bl false) hp
  | _ => .stuck
theorem Post.mono {α β : Type} {F : List Nat} {σ : L2.St} {ρ : Rh} {N : Nat} {H : Hp} {re : Re α β} {r : R α} {Q Q' : β → Hp → Prop} (h : Post Γ F W σ ρ N H re r Q) (i : ∀ x H, Q x H → Q' x H) : Post Γ F W σ ρ N H re r Q' := by
  cases r with
  | ok v hp' => exact fun ρ' H' x s r e => i x H' (h ρ' H' x s r e)
  | exc c fs hp' => exact h
  | stuck => exact h
theorem chain_ok {r r' : R2} {v v' : CV → CV → Hc → R CV} (o : VOp Γ W r v) (o' : VOp Γ W r' v') {σ H} {Q : VK} (h : rd Γ W (reV Γ) (eChain v v' ma mb mc) σ H Q) :
    tChain r r' (rd Γ W (reV Γ) ma) (rd Γ W (reV Γ) mb) (rd Γ W (reV Γ) mc) σ H Q := by
  obtain ⟨ρ, F, hp, env, r0, e0, p⟩ := h
  refine rd_mono (rd_next (re := reV Γ) r0 e0 p) fun x H1 ⟨ρ1, hp1, a, s1, r1, e1, h1, p1⟩ => ?_
  refine rd_mono (rd_next (re := reV Γ) r1 e1 p1) fun y H2 ⟨ρ2, hp2, b, s2, r2, e2, h2, p2⟩ => ?_
  refine o σ ρ2 F hp2 H2 a b x y _ r2 (h1.mono s2 (Nat.le_refl _) s2.le) h2 (Post.mono (Post.bind (re := reV Γ) p2) fun z H3 ⟨ρ3, hp3, w, s3, r3, h3, p3⟩ => ?_)
  split at p3
  · have h3' : Rep Γ ρ3 hp3.N H3 hp3.N (.bl true) z := h3
    unfold Rep at h3'
    subst h3'
    refine ⟨true, rfl, ?_⟩
    rw [if_pos rfl]
    refine rd_mono (rd_next (re := reV Γ) r3 (e2.mono s3) p3) fun u H4 ⟨ρ4, hp4, d, s4, r4, e4, h4, p4⟩ => ?_
    exact o' σ ρ4 F hp4 H4 b d y u Q r4 (h2.mono (s3.trans s4) (Nat.le_refl _) (s3.trans s4).le) h4 p4
  · have h3' : Rep Γ ρ3 hp3.N H3 hp3.N (.bl false) z := h3
    unfold Rep at h3'
    subst h3'
    refine ⟨false, rfl, ?_⟩
    rw [if_neg Bool.false_ne_true]
    exact p3.ok r3 repB
  · exact p3.elim
theorem sim_chain {o1 o2 : CmpOp} {v v' : CV → CV → Hc → R CV} (o : OpC X Γ W (compareOp o1) v) (o' : OpC X Γ W (compareOp o2) v') (ha : SimE X Γ W a ma) (hb : SimE X Γ W b mb) (hc : SimE X Γ W c mc)
    (hm : lastMarks [o1, o2] [b, c] = false := by with_unfolding_all rfl) : SimE X Γ W (.Compare a [o1, o2] [b, c] pos) (eChain v v' ma mb mc) := by
  obtain ⟨r, q1, q2⟩ := o
  obtain ⟨r', q1', q2'⟩ := o'
  exact pe_imp (pe_chain q1 q1' ha hb hc hm) fun _ _ _ h => chain_ok q2 q2' h
theorem sim_tchain {o1 o2 : CmpOp} {v v' : CV → CV → Hc → R CV} (o : OpC X Γ W (compareOp o1) v) (o' : OpC X Γ W (compareOp o2) v') (ha : SimE X Γ W a ma) (hb : SimE X Γ W b mb) (hc : SimE X Γ W c mc)
    (hm : lastMarks [o1, o2] [b, c] = false := by with_unfolding_all rfl) : SimT X Γ W (.Compare a [o1, o2] [b, c] pos) (tV (eChain v v' ma mb mc)) := by
  obtain ⟨r, q1, q2⟩ := o
  obtain ⟨r', q1', q2'⟩ := o'
  exact pt_imp (pt_chain q1 q1' ha hb hc hm) fun _ _ _ h => chain_ok q2 q2' (tV_val h)

/-! ### arguments, displays -/
def evA : List (M CV) → M (List CV)
  | [] => fun _ hp => .ok [] hp
  | m :: r => fun env hp => (m env hp).bind fun v hp => (evA r env hp).bind fun vs hp => .ok (v :: vs) hp
theorem sim_nil : SimA X Γ W [] (evA []) := pa_imp pa_nil fun σ H Q h => by
  obtain ⟨ρ, F, hp, env, r0, e0, p⟩ := h
  exact p.ok r0 (by unfold Reps; rfl)
theorem sim_cons {e : Expr} {es : List Expr} {m : M CV} {ms : List (M CV)} (h : SimE X Γ W e m) (hr : SimA X Γ W es (evA ms)) (hs : starEach (e :: es) X.env = (false, eval e X.env) :: starEach es X.env := by rfl) : SimA X Γ W (e :: es) (evA (m :: ms)) :=
  pa_imp (pa_cons h hr hs) fun σ H Q q => by
    obtain ⟨ρ, F, hp, env, r0, e0, p⟩ := q
    refine rd_mono (rd_next (re := reV Γ) r0 e0 p) fun x H1 ⟨ρ1, hp1, v, s1, r1, e1, h1, p1⟩ => ?_
    refine rd_mono (rd_next (re := reA Γ) r1 e1 p1) fun xs H2 ⟨ρ2, hp2, vs, s2, r2, e2, h2, p2⟩ => ?_
    refine p2.ok r2 ?_
    show Reps Γ ρ2 hp2.N H2 hp2.N (v :: vs) (x :: xs)
    unfold Reps
    exact ⟨x, xs, rfl, h1.mono s2 (Nat.le_refl _) s2.le, h2⟩
def eTup (ms : List (M CV)) : M CV := fun env hp => (evA ms env hp).bind fun vs hp => if okLen vs.length = true then .ok (.tup vs) hp else .stuck
theorem sim_tup {es : List Expr} {ms : List (M CV)} {j} (h : SimA X Γ W es (evA ms)) : SimE X Γ W (.Tuple es j pos) (eTup ms) :=
  pe_imp (pe_tup h) fun σ H Q q => by
    obtain ⟨ρ, F, hp, env, r0, e0, p⟩ := q
    refine rd_mono (rd_next (re := reA Γ) r0 e0 p) fun xs H1 ⟨ρ1, hp1, vs, s1, r1, e1, h1, p1⟩ => ?_
    split at p1
    · rename_i hl
      refine ⟨by rw [← h1.len]; exact okLen_le hl, fun p h => ?_⟩
      exact p1 ρ1 _ _ (step_new h) (r1.new h) (rep_newT r1 h h1)
    · exact p1.elim
def eLst (ms : List (M CV)) : M CV := fun env hp => (evA ms env hp).bind newL
theorem sim_lst {es : List Expr} {ms : List (M CV)} (h : SimA X Γ W es (evA ms)) : SimE X Γ W (.List es pos) (eLst ms) :=
  pe_imp (pe_lst h) fun σ H Q q => by
    obtain ⟨ρ, F, hp, env, r0, e0, p⟩ := q
    refine rd_mono (rd_next (re := reA Γ) r0 e0 p) fun xs H1 ⟨ρ1, hp1, vs, s1, r1, e1, h1, p1⟩ => ?_
    exact ⟨by rw [← h1.len]; exact newL_len p1, fun p h => post_newL r1 h1 h p1⟩

/-! ### built-ins by values -/
def VCall (Γ : Gx) (W : WX) (r : List V → Hp → VK → Prop) (f : List CV → Hc → R CV) : Prop := ∀ (σ : L2.St) (ρ : Rh) (F : List Nat) (hp : Hc) (H : Hp) (as : List CV) (xs : List V) (Q : VK),
  SRh Γ ρ F hp H → Reps Γ ρ hp.N H hp.N as xs → Post Γ F W σ ρ hp.N H (reV Γ) (f as hp) Q → r xs H Q
def CallC (X : Cx) (Γ : Gx) (W : WX) (f : Value) (v : List CV → Hc → R CV) : Prop := ∃ r, CallR X f r ∧ VCall Γ W r v
def eBi (f : List CV → Hc → R CV) (ms : List (M CV)) : M CV := fun env hp => (evA ms env hp).bind f
theorem eBi_ok {r : List V → Hp → VK → Prop} {f : List CV → Hc → R CV} (v : VCall Γ W r f) {ms : List (M CV)} {σ H} {Q : VK} (q : rd Γ W (reV Γ) (eBi f ms) σ H Q) : tCB r (rd Γ W (reA Γ) (evA ms)) σ H Q := by
  obtain ⟨ρ, F, hp, env, r0, e0, p⟩ := q
  refine rd_mono (rd_next (re := reA Γ) r0 e0 p) fun xs H1 ⟨ρ1, hp1, vs, s1, r1, e1, h1, p1⟩ => ?_
  exact v σ ρ1 F hp1 H1 vs xs Q r1 h1 p1
theorem sim_bi {x : Str} {p : Pos} {e : Expr} {es : List Expr} {id : String} {f : List CV → Hc → R CV} {ms : List (M CV)} (o : CallC X Γ W (.builtin id) f) (hg : Gl X x) (hm : X.mg x = none) (hv : bootBuiltins x = some (.builtin id)) (ha : SimA X Γ W (e :: es) (evA ms))
    (hn : x ≠ "__name__" := by decide) (hdb : (x == ("__debug__" : Str)) = false := by decide) (he : starEach (e :: es) X.env = (false, eval e X.env) :: starEach es X.env := by rfl) (hpl : (backTo pos (starEach es X.env)).any (·.1) = false := by rfl) :
    SimE X Γ W (.Call (.Name x p) (e :: es) [] pos) (eBi f ms) := by
  obtain ⟨r, h1, h2⟩ := o
  exact pe_imp (pe_callB h1 hg hm hv ha hn hdb he hpl) fun _ _ _ q => eBi_ok h2 q
theorem sim_ty {x : Str} {p : Pos} {e : Expr} {es : List Expr} {T : String} {f : List CV → Hc → R CV} {ms : List (M CV)} (o : CallC X Γ W (.type T) f) (hg : Gl X x) (hm : X.mg x = none) (hv : bootBuiltins x = some (.type T)) (ha : SimA X Γ W (e :: es) (evA ms))
    (hn : x ≠ "__name__" := by decide) (hdb : (x == ("__debug__" : Str)) = false := by decide) (he : starEach (e :: es) X.env = (false, eval e X.env) :: starEach es X.env := by rfl) (hpl : (backTo pos (starEach es X.env)).any (·.1) = false := by rfl) :
    SimE X Γ W (.Call (.Name x p) (e :: es) [] pos) (eBi f ms) := by
  obtain ⟨r, h1, h2⟩ := o
  exact pe_imp (pe_callTy h1 hg hm hv ha hn hdb he hpl) fun _ _ _ q => eBi_ok h2 q
theorem reps_two {ρ N H m} {x y : CV} {vs : List V} (h : Reps Γ ρ N H m [x, y] vs) : ∃ v w, vs = [v, w] ∧ Rep Γ ρ N H m x v ∧ Rep Γ ρ N H m y w := by
  unfold Reps at h
  obtain ⟨v, r, rfl, h1, h2⟩ := h
  obtain ⟨w, rfl, h3⟩ := h2.one
  exact ⟨v, w, rfl, h1, h3⟩
def bAbs : List CV → Hc → R CV
  | [.int i], hp => .ok (.int (if i < 0 then -i else i)) hp
  | _, _ => .stuck
theorem bc_abs : CallC X Γ W (.builtin "abs") bAbs := ⟨_, call_abs, fun σ ρ F hp H as xs Q r h p => by
  unfold bAbs at p
  split at p
  · obtain ⟨v, rfl, h1⟩ := h.one
    unfold Rep at h1; subst h1
    exact ⟨_, rfl, p.ok r repI⟩
  · exact p.elim⟩
def bMax2 : List CV → Hc → R CV
  | [.int i, .int j], hp => .ok (.int (if j > i then j else i)) hp
  | _, _ => .stuck
theorem bc_max2 [S : Sx X Γ W k] : CallC X Γ W (.builtin "max") bMax2 := ⟨_, call_max2 S.calm, fun σ ρ F hp H as xs Q r h p => by
  unfold bMax2 at p
  split at p
  · obtain ⟨v, w, rfl, h1, h2⟩ := reps_two h
    unfold Rep at h1 h2; subst h1 h2
    exact ⟨_, _, rfl, p.ok r repI⟩
  · exact p.elim⟩
def bMin2 : List CV → Hc → R CV
  | [.int i, .int j], hp => .ok (.int (if j < i then j else i)) hp
  | _, _ => .stuck
theorem bc_min2 [S : Sx X Γ W k] : CallC X Γ W (.builtin "min") bMin2 := ⟨_, call_min2 S.calm, fun σ ρ F hp H as xs Q r h p => by
  unfold bMin2 at p
  split at p
  · obtain ⟨v, w, rfl, h1, h2⟩ := reps_two h
    unfold Rep at h1 h2; subst h1 h2
    exact ⟨_, _, rfl, p.ok r repI⟩
  · exact p.elim⟩
def bInt : List CV → Hc → R CV
  | [.int i], hp => .ok (.int i) hp
  | [.bl b], hp => .ok (.int (if b then 1 else 0)) hp
  | _, _ => .stuck
theorem bc_int : CallC X Γ W (.type "int") bInt := ⟨_, call_int1, fun σ ρ F hp H as xs Q r h p => by
  unfold bInt at p
  split at p
  · obtain ⟨v, rfl, h1⟩ := h.one
    unfold Rep at h1; subst h1
    exact .inl ⟨_, rfl, p.ok r repI⟩
  · obtain ⟨v, rfl, h1⟩ := h.one
    unfold Rep at h1; subst h1
    exact .inr ⟨_, rfl, p.ok r repI⟩
  · exact p.elim⟩
def bLen : List CV → Hc → R CV
  | [.str s], hp => if okLen s.length = true then .ok (.int s.length) hp else .stuck
  | [x], hp => match seqItems hp x with
    | some xs => .ok (.int xs.length) hp
    | none => .stuck
  | _, _ => .stuck
theorem bc_len [S : Sx X Γ W k] : CallC X Γ W (.builtin "len") bLen := ⟨_, call_len, fun σ ρ F hp H as xs Q r h p => by
  unfold bLen at p
  split at p
  · obtain ⟨v, rfl, h1⟩ := h.one
    unfold Rep at h1; subst h1
    split at p
    · rename_i hl
      refine ⟨_, _, rfl, ⟨by rw [sOf_len]; exact okLen_le hl, rfl⟩, ?_⟩
      rw [sOf_len]; exact p.ok r repI
    · exact p.elim
  · obtain ⟨v, rfl, h1⟩ := h.one
    split at p
    · rename_i e
      obtain ⟨q, vs, rfl, h2, h3⟩ := seqItems_ok r e h1
      refine ⟨_, vs.length, rfl, ?_, ?_⟩
      · rcases h2 with h2 | h2
        · exact .inl ⟨vs, S.K ▸ h2, rfl⟩
        · exact .inr ⟨vs, S.K ▸ h2, rfl⟩
      · rw [← h3.len]; exact p.ok r repI
    · exact p.elim
  · exact p.elim⟩
/-- tuple(x), list(x) of a list or tuple -/
def bTuple : List CV → Hc → R CV
  | [x], hp => match x with
    | .tup xs => .ok (.tup xs) hp
    | .wtp xs => .ok (.wtp xs) hp
    | _ => match seqItems hp x with
      | some xs => .ok (.tup xs) hp
      | none => .stuck
  | _, _ => .stuck
theorem seqItems_list {ρ F hp H b xs y} (r : SRh Γ ρ F hp H) (hn : ∀ ys, b ≠ .tup ys) (hw : ∀ ys, b ≠ .wtp ys) (e : seqItems hp b = some xs) (h : Rep Γ ρ hp.N H hp.N b y) : ∃ p vs, y = .ref p ∧ SqL Γ.K H p vs ∧ Reps Γ ρ hp.N H hp.N xs vs := by
  unfold seqItems at e
  split at e
  · exact absurd rfl (hn _)
  · exact absurd rfl (hw _)
  · cases e
    unfold Rep at h
    obtain ⟨a, vs, rfl, h1, h2⟩ := h
    exact ⟨a, vs, rfl, sqL_of h1, h2.mono Step.refl (Nat.zero_le _) (Nat.zero_le _)⟩
  · split at e
    · rename_i he
      cases e
      unfold Rep at h
      obtain ⟨_, rfl⟩ := h
      obtain ⟨vs, h1, h2⟩ := r.obj _ _ he
      exact ⟨_, vs, rfl, .inl (.inl h1), h2⟩
    · cases e
  · cases e
theorem bc_tuple [S : Sx X Γ W k] : CallC X Γ W (.type "tuple") bTuple := ⟨_, call_tuple_of, fun σ ρ F hp H as xs Q r h p => by
  unfold bTuple at p
  split at p
  · obtain ⟨v, rfl, h1⟩ := h.one
    split at p
    · have h1' := h1
      unfold Rep at h1
      obtain ⟨a, vs, rfl, h2, h3⟩ := h1
      exact ⟨a, vs, rfl, .inr ⟨S.K ▸ sqT_of h2, p.ok r h1'⟩⟩
    · have h1' := h1
      unfold Rep at h1
      obtain ⟨a, vs, rfl, h2, h3⟩ := h1
      exact ⟨a, vs, rfl, .inr ⟨S.K ▸ sqT_wr h2, p.ok r h1'⟩⟩
    · rename_i hn hw
      split at p
      · rename_i e
        obtain ⟨q, vs, rfl, h2, h3⟩ := seqItems_list r (fun ys z => hn ys z) (fun ys z => hw ys z) e h1
        exact ⟨q, vs, rfl, .inl ⟨S.K ▸ h2, fun l hl => p ρ _ _ (step_new hl) (r.new hl) (rep_newT r hl h3)⟩⟩
      · exact p.elim
  · exact p.elim⟩
def bList : List CV → Hc → R CV
  | [x], hp => match seqItems hp x with
    | some xs => newL xs hp
    | none => .stuck
  | _, _ => .stuck
theorem bc_list [S : Sx X Γ W k] : CallC X Γ W (.type "list") bList := ⟨_, call_list_of, fun σ ρ F hp H as xs Q r h p => by
  unfold bList at p
  split at p
  · obtain ⟨v, rfl, h1⟩ := h.one
    split at p
    · rename_i e
      obtain ⟨q, vs, rfl, h2, h3⟩ := seqItems_ok r e h1
      exact ⟨q, vs, rfl, S.K ▸ h2, fun l hl => post_newL r h3 hl p⟩
    · exact p.elim
  · exact p.elim⟩
end
end Bl

/-! Own layer, part G: statements, targets, what is walked, for, while. -/
namespace Bl
open PySem PySem.Spec PyProof.Rows L2

def PostS (Γ : Gx) (F : List Nat) (W : WX) (ρ : Rh) (N : Nat) (H : Hp) (r : RS) (D : Ends) : Prop := match r with
  | .ok f hp' => match f with
    | .nx env => ∀ ρ' H' σ', Step ρ N H ρ' hp'.N H' → SRh Γ ρ' F hp' H' → SRe Γ ρ' hp'.N H' σ' env → D.nx σ' H'
    | .rt v => ∀ ρ' H' x, Step ρ N H ρ' hp'.N H' → SRh Γ ρ' F hp' H' → Rep Γ ρ' hp'.N H' hp'.N v x → D.rt x H'
    | .bk env => ∀ ρ' H' σ', Step ρ N H ρ' hp'.N H' → SRh Γ ρ' F hp' H' → SRe Γ ρ' hp'.N H' σ' env → D.bk σ' H'
    | .ct env => ∀ ρ' H' σ', Step ρ N H ρ' hp'.N H' → SRh Γ ρ' F hp' H' → SRe Γ ρ' hp'.N H' σ' env → D.ct σ' H'
    | .ex c fs env => ∀ ρ' H' σ' d, Step ρ N H ρ' hp'.N H' → SRh Γ ρ' F hp' H' → ExcR Γ ρ' hp'.N H' fs d → SRe Γ ρ' hp'.N H' σ' env → W (.ref (Γ.cl c)) d σ' H'
  | .stuck => False
def rdS (Γ : Gx) (W : WX) (m : MS) : TS := fun D σ H => ∃ ρ F hp env, SRh Γ ρ F hp H ∧ SRe Γ ρ hp.N H σ env ∧ PostS Γ F W ρ hp.N H (m env hp) D
abbrev SimS (X : Cx) (Γ : Gx) (W : WX) (s : Stmt) (m : MS) : Prop := PS X s (rdS Γ W m)
abbrev SimSs (X : Cx) (Γ : Gx) (W : WX) (s : List Stmt) (m : MS) : Prop := PSs X s (rdS Γ W m)
section
variable {X : Cx} {Γ : Gx} {W : WX} {k : Nat} {F : List Nat} {ρ ρ' : Rh} {N N' : Nat} {H H' : Hp} {σ : L2.St} {env : En} {hp : Hc} {D : Ends}
theorem PostS.step {r : RS} (st : Step ρ N H ρ' N' H') (h : PostS Γ F W ρ N H r D) : PostS Γ F W ρ' N' H' r D := by
  cases r with
  | stuck => exact h
  | ok f hp' =>
    cases f with
    | nx env => exact fun ρ2 H2 σ2 s r e => h ρ2 H2 σ2 (st.trans s) r e
    | rt v => exact fun ρ2 H2 σ2 s r e => h ρ2 H2 σ2 (st.trans s) r e
    | bk env => exact fun ρ2 H2 σ2 s r e => h ρ2 H2 σ2 (st.trans s) r e
    | ct env => exact fun ρ2 H2 σ2 s r e => h ρ2 H2 σ2 (st.trans s) r e
    | ex c fs env => exact fun ρ2 H2 σ2 d s r e q => h ρ2 H2 σ2 d (st.trans s) r e q
theorem PostS.nx (h : PostS Γ F W ρ hp.N H (.ok (.nx env) hp) D) (r : SRh Γ ρ F hp H) (e : SRe Γ ρ hp.N H σ env) : D.nx σ H := h ρ H σ Step.refl r e
/-- an expression within a statement -/
def RS.of {α : Type} (r : R α) (env : En) (f : α → Hc → RS) : RS := match r with
  | .ok v hp => f v hp
  | .exc c fs hp => .ok (.ex c fs env) hp
  | .stuck => .stuck
theorem PostS.of {α β : Type} {re : Re α β} {r : R α} {f : α → Hc → RS} (e : SRe Γ ρ N H σ env) (h : PostS Γ F W ρ N H (RS.of r env f) D) :
    Post Γ F W σ ρ N H re r (fun x H1 => ∃ ρ1 hp1 a, Step ρ N H ρ1 hp1.N H1 ∧ SRh Γ ρ1 F hp1 H1 ∧ SRe Γ ρ1 hp1.N H1 σ env ∧ re ρ1 hp1.N H1 a x ∧ PostS Γ F W ρ1 hp1.N H1 (f a hp1) D) := by
  cases r with
  | ok v hp' => exact fun ρ' H' x s r e' => ⟨ρ', hp', v, s, r, e.mono s, e', PostS.step s h⟩
  | exc c fs hp' => exact fun ρ' H' d s r q => h ρ' H' σ d s r q (e.mono s)
  | stuck => exact h
theorem rdS_first {α β : Type} {re : Re α β} {m : M α} {f : En → α → Hc → RS} (h : rdS Γ W (fun env hp => RS.of (m env hp) env (f env)) D σ H) :
    ∃ F env, rd Γ W re m σ H fun x H1 => ∃ ρ1 hp1 a, SRh Γ ρ1 F hp1 H1 ∧ SRe Γ ρ1 hp1.N H1 σ env ∧ re ρ1 hp1.N H1 a x ∧ PostS Γ F W ρ1 hp1.N H1 (f env a hp1) D := by
  obtain ⟨ρ, F, hp, env, r, e, p⟩ := h
  refine ⟨F, env, ρ, F, hp, env, r, e, ?_⟩
  exact Post.mono (PostS.of (re := re) e p) fun x H1 ⟨ρ1, hp1, a, _, r1, e1, h1, p1⟩ => ⟨ρ1, hp1, a, r1, e1, h1, p1⟩
theorem rdS_next {α β : Type} {re : Re α β} {m : M α} {f : α → Hc → RS} (r : SRh Γ ρ F hp H) (e : SRe Γ ρ hp.N H σ env) (p : PostS Γ F W ρ hp.N H (RS.of (m env hp) env f) D) :
    rd Γ W re m σ H fun x H1 => ∃ ρ1 hp1 a, Step ρ hp.N H ρ1 hp1.N H1 ∧ SRh Γ ρ1 F hp1 H1 ∧ SRe Γ ρ1 hp1.N H1 σ env ∧ re ρ1 hp1.N H1 a x ∧ PostS Γ F W ρ1 hp1.N H1 (f a hp1) D :=
  ⟨ρ, F, hp, env, r, e, PostS.of (re := re) e p⟩

/-! ### blocks -/
def sNil : MS := fun env hp => .ok (.nx env) hp
def sSeq (a b : MS) : MS := fun env hp => match a env hp with
  | .ok (.nx env') hp' => b env' hp'
  | r => r
theorem sim_snil : SimSs X Γ W [] sNil := pss_imp pss_nil fun D σ H h => by
  obtain ⟨ρ, F, hp, env, r, e, p⟩ := h
  exact p.nx r e
theorem seq_ok {a b : MS} (h : rdS Γ W (sSeq a b) D σ H) : rdS Γ W a { D with nx := rdS Γ W b D } σ H := by
  obtain ⟨ρ, F, hp, env, r, e, p⟩ := h
  refine ⟨ρ, F, hp, env, r, e, ?_⟩
  unfold sSeq at p
  revert p
  generalize a env hp = z
  intro p
  cases z with
  | stuck => exact p
  | ok f hp' =>
    cases f with
    | nx env' => exact fun ρ' H' σ' s r' e' => ⟨ρ', F, hp', env', r', e', PostS.step s p⟩
    | rt v => exact p
    | bk env => exact p
    | ct env => exact p
    | ex c fs env => exact p
theorem sim_seq {st : Stmt} {rest : List Stmt} {a b : MS} (h1 : SimS X Γ W st a) (h2 : SimSs X Γ W rest b) : SimSs X Γ W (st :: rest) (sSeq a b) := pss_imp (pss_cons h1 h2) fun _ _ _ h => seq_ok h
theorem sim_s1 {st : Stmt} {a : MS} (h1 : SimS X Γ W st a) : SimSs X Γ W [st] a := pss_one h1
theorem sim_pass {pos} : SimS X Γ W (.Pass pos) sNil := ps_imp ps_pass fun D σ H h => by
  obtain ⟨ρ, F, hp, env, r, e, p⟩ := h
  exact p.nx r e
def sBrk : MS := fun env hp => .ok (.bk env) hp
def sCnt : MS := fun env hp => .ok (.ct env) hp
theorem sim_brk {pos} : SimS X Γ W (.Break pos) sBrk := ps_imp ps_break fun D σ H h => by
  obtain ⟨ρ, F, hp, env, r, e, p⟩ := h
  exact p ρ H σ Step.refl r e
theorem sim_cnt {pos} : SimS X Γ W (.Continue pos) sCnt := ps_imp ps_continue fun D σ H h => by
  obtain ⟨ρ, F, hp, env, r, e, p⟩ := h
  exact p ρ H σ Step.refl r e
def sRet (m : M CV) : MS := fun env hp => RS.of (m env hp) env fun v hp => .ok (.rt v) hp
theorem sim_ret {e : Expr} {m : M CV} {pos} (h : SimE X Γ W e m) : SimS X Γ W (.Return (some e) pos) (sRet m) := ps_imp (ps_ret h) fun D σ H q => by
  obtain ⟨F, env, q⟩ := rdS_first (re := reV Γ) q
  exact rd_mono q fun x H1 ⟨ρ1, hp1, a, r1, e1, h1, p1⟩ => p1 ρ1 H1 x Step.refl r1 h1
def sRetN : MS := fun _ hp => .ok (.rt .non) hp
theorem sim_retN {pos} : SimS X Γ W (.Return none pos) sRetN := ps_imp ps_retN fun D σ H h => by
  obtain ⟨ρ, F, hp, env, r, e, p⟩ := h
  exact p ρ H _ Step.refl r repN
def sExp (m : M CV) : MS := fun env hp => RS.of (m env hp) env fun _ hp => .ok (.nx env) hp
theorem sim_exp {e : Expr} {m : M CV} {pos : Pos} (h : SimE X Γ W e m) (hs : swapsWith e none pos.line X.env = pure false := by rfl) : SimS X Γ W (.Expr e pos) (sExp m) := ps_imp (ps_expr h hs) fun D σ H q => by
  obtain ⟨F, env, q⟩ := rdS_first (re := reV Γ) q
  exact rd_mono q fun x H1 ⟨ρ1, hp1, a, r1, e1, h1, p1⟩ => p1.nx r1 e1
def sIf (c : M Bool) (a b : MS) : MS := fun env hp => RS.of (c env hp) env fun d hp => if d then a env hp else b env hp
theorem sim_sif {c : Expr} {x y : List Stmt} {tc : M Bool} {a b : MS} {pos} (hc : SimT X Γ W c tc) (ha : SimSs X Γ W x a) (hb : SimSs X Γ W y b) : SimS X Γ W (.If c x y pos) (sIf tc a b) := ps_imp (ps_if hc ha hb) fun D σ H q => by
  obtain ⟨F, env, q⟩ := rdS_first (re := reB) q
  refine rd_mono q fun x H1 ⟨ρ1, hp1, v, r1, e1, h1, p1⟩ => ?_
  cases (show v = x from h1)
  cases x with
  | true => exact ⟨ρ1, F, hp1, env, r1, e1, p1⟩
  | false => exact ⟨ρ1, F, hp1, env, r1, e1, p1⟩

/-! ### targets -/
theorem SRe.set {v : CV} {x : V} (e : SRe Γ ρ N H σ env) (h : Rep Γ ρ N H N v x) (i : Nat) : SRe Γ ρ N H (σ.set i (some x)) (env.set i (some v)) := by
  refine ⟨by rw [List.length_set, List.length_set]; exact e.len, fun j w q => ?_⟩
  by_cases hij : i = j
  · subst hij
    by_cases hl : i < env.length
    · rw [List.getElem?_set_self hl] at q
      cases q
      exact ⟨x, by rw [List.getElem?_set_self (by rw [e.len]; exact hl)], h⟩
    · rw [List.getElem?_eq_none (by rw [List.length_set]; omega)] at q; cases q
  · rw [List.getElem?_set_ne hij] at q ⊢
    exact e.get j w q
structure Tgt where
  sl : List Nat
  f : CV → En → Option En
structure Tgts where
  sl : List Nat
  f : List CV → En → Option En
/-- the same off some slots -/
def Agr (sl : List Nat) (σ σ' : L2.St) : Prop := σ'.length = σ.length ∧ ∀ j : Nat, j ∉ sl → σ'[j]? = σ[j]?
theorem Agr.refl {sl : List Nat} {σ : L2.St} : Agr sl σ σ := ⟨rfl, fun _ _ => rfl⟩
theorem Agr.trans {sl sl' : List Nat} {σ σ1 σ2 : L2.St} (a : Agr sl σ σ1) (b : Agr sl' σ1 σ2) : Agr (sl ++ sl') σ σ2 :=
  ⟨b.1.trans a.1, fun j h => (b.2 j fun z => h (List.mem_append_right _ z)).trans (a.2 j fun z => h (List.mem_append_left _ z))⟩
theorem Agr.set {i : Nat} {σ : L2.St} {v : Option V} : Agr [i] σ (σ.set i v) :=
  ⟨List.length_set, fun j h => List.getElem?_set_ne fun z => h (by rw [z]; exact List.mem_singleton_self j)⟩
def rdG (Γ : Gx) (t : Tgt) : TG := fun v σ H Q => ∃ ρ F hp env cv env', SRh Γ ρ F hp H ∧ SRe Γ ρ hp.N H σ env ∧ Rep Γ ρ hp.N H hp.N cv v ∧ t.f cv env = some env' ∧ ∀ σ', SRe Γ ρ hp.N H σ' env' → Agr t.sl σ σ' → Q σ' H
def rdGs (Γ : Gx) (t : Tgts) : TGs := fun vs σ H Q => ∃ ρ F hp env cvs env', SRh Γ ρ F hp H ∧ SRe Γ ρ hp.N H σ env ∧ Reps Γ ρ hp.N H hp.N cvs vs ∧ t.f cvs env = some env' ∧ ∀ σ', SRe Γ ρ hp.N H σ' env' → Agr t.sl σ σ' → Q σ' H
abbrev SimG (X : Cx) (Γ : Gx) (e : Expr) (t : Tgt) : Prop := PG X e (rdG Γ t)
abbrev SimGs (X : Cx) (Γ : Gx) (es : List Expr) (t : Tgts) : Prop := PGs X es (rdGs Γ t)
theorem pg_imp {e : Expr} {t t' : TG} (h : PG X e t) (i : ∀ v σ H Q, t' v σ H Q → t v σ H Q) : PG X e t' := ⟨fun pins s σ H v u Q I r q => h.run pins s σ H v u Q I r (i v σ H Q q)⟩
theorem pgs_imp {e : List Expr} {t t' : TGs} (h : PGs X e t) (i : ∀ v σ H Q, t' v σ H Q → t v σ H Q) : PGs X e t' := ⟨fun pins s σ H v u Q I r q => h.run pins s σ H v u Q I r (i v σ H Q q)⟩
def gNm (i : Nat) : Tgt := ⟨[i], fun v env => some (env.set i (some v))⟩
theorem sim_gname [S : Sx X Γ W k] {i : Nat} {x : Str} {pos} (hi : X.N[i]? = some x) (hx : Loc X.env.scope x) (hf : X.fn x = true ∨ X.env.scope.names.lookup x = some .local := by first | exact .inl rfl | exact .inr rfl) : SimG X Γ (.Name x pos) (gNm i) :=
  pg_imp (pg_name S.nd hi hx hf) fun v σ H Q h => by
    obtain ⟨ρ, F, hp, env, cv, env', r, e, hr, ht, hq⟩ := h
    cases ht
    exact hq _ (e.set hr i) Agr.set
def gsNil : Tgts := ⟨[], fun vs env => match vs with
  | [] => some env
  | _ :: _ => none⟩
def gsCons (t : Tgt) (u : Tgts) : Tgts := ⟨t.sl ++ u.sl, fun vs env => match vs with
  | v :: r => match t.f v env with
    | some env' => u.f r env'
    | none => none
  | [] => none⟩
theorem sim_gsnil : SimGs X Γ [] gsNil := pgs_imp pgs_nil fun v σ H Q h => by
  obtain ⟨ρ, F, hp, env, cvs, env', r, e, hr, ht, hq⟩ := h
  cases cvs with
  | nil =>
    cases ht
    unfold Reps at hr
    exact ⟨hr, hq _ e Agr.refl⟩
  | cons _ _ => cases ht
theorem sim_gscons {e : Expr} {es : List Expr} {t : Tgt} {u : Tgts} (h1 : SimG X Γ e t) (h2 : SimGs X Γ es u)
    (hs : (assignEach (e :: es) X.env).map (·.2) = assign e X.env :: (assignEach es X.env).map (·.2) := by rfl) : SimGs X Γ (e :: es) (gsCons t u) := pgs_imp (pgs_cons h1 h2 hs) fun v σ H Q h => by
  obtain ⟨ρ, F, hp, env, cvs, env', r, e, hr, ht, hq⟩ := h
  cases cvs with
  | nil => cases ht
  | cons c cr =>
    unfold Reps at hr
    obtain ⟨x, xs, rfl, q1, q2⟩ := hr
    have ht' : (match t.f c env with | some env' => u.f cr env' | none => none) = some env' := ht
    clear ht
    split at ht'
    · rename_i env1 he
      exact ⟨x, xs, rfl, ρ, F, hp, env, c, env1, r, e, q1, he, fun σ' e' a' => ⟨ρ, F, hp, env1, cr, env', r, e', q2, ht', fun σ2 e2 a2 => hq σ2 e2 (a'.trans a2)⟩⟩
    · cases ht'
def gTp (n : Nat) (u : Tgts) : Tgt := ⟨u.sl, fun v env => match tupItems v with
  | some xs => if xs.length = n then u.f xs env else none
  | none => none⟩
theorem sim_gtup [S : Sx X Γ W k] {es : List Expr} {j : Nat} {u : Tgts} {n : Nat} {pos} (h : SimGs X Γ es u)
    (hn : (assignEach es X.env).length = n := by rfl) (hst : (assignEach es X.env).findIdx? (·.1) = none := by rfl) : SimG X Γ (.Tuple es j pos) (gTp n u) :=
  pg_imp (pg_tup S.calm h hn hst) fun v σ H Q h => by
    obtain ⟨ρ, F, hp, env, cv, env', r, e, hr, ht, hq⟩ := h
    have ht' : (match tupItems cv with | some xs => if xs.length = n then u.f xs env else none | none => none) = some env' := ht
    split at ht'
    · rename_i xs he
      split at ht'
      · rename_i hl
        obtain ⟨a, vs, rfl, q1, q2⟩ := tupItems_ok hr he
        exact ⟨a, vs, rfl, S.K ▸ q1, by rw [← q2.len]; exact hl, ρ, F, hp, env, _, env', r, e, q2, ht', hq⟩
      · cases ht'
    · cases ht'
/-- target = value -/
def sAsg (t : Tgt) (m : M CV) : MS := fun env hp => RS.of (m env hp) env fun v hp => match t.f v env with
  | some env' => .ok (.nx env') hp
  | none => .stuck
theorem asg_ok {t : Tgt} {m : M CV} (q : rdS Γ W (sAsg t m) D σ H) : tAsg (rd Γ W (reV Γ) m) (rdG Γ t) D σ H := by
  obtain ⟨F, env, q⟩ := rdS_first (re := reV Γ) q
  refine rd_mono q fun x H1 ⟨ρ1, hp1, a, r1, e1, h1, p1⟩ => ?_
  split at p1
  · rename_i env' he
    exact ⟨ρ1, F, hp1, env, a, env', r1, e1, h1, he, fun σ' e' _ => p1.nx r1 e'⟩
  · exact p1.elim
theorem sim_set [S : Sx X Γ W k] {i : Nat} {x : Str} {e : Expr} {m : M CV} {pos pos' : Pos} (he : SimE X Γ W e m) (hi : X.N[i]? = some x) (hx : Loc X.env.scope x)
    (hs : swapsWith e (some (.Name x pos')) pos.line X.env = pure false := by rfl) (hf : X.fn x = true ∨ X.env.scope.names.lookup x = some .local := by first | exact .inl rfl | exact .inr rfl) : SimS X Γ W (.Assign [.Name x pos'] e pos) (sAsg (gNm i) m) :=
  ps_imp (ps_set S.nd hi hx he hs hf) fun D σ H q => by
    obtain ⟨F, env, q⟩ := rdS_first (re := reV Γ) q
    refine rd_mono q fun x H1 ⟨ρ1, hp1, a, r1, e1, h1, p1⟩ => ?_
    exact p1.nx r1 (e1.set h1 i)
theorem sim_asg {tg e : Expr} {m : M CV} {t : Tgt} {pos : Pos} (he : SimE X Γ W e m) (hg : SimG X Γ tg t) (hs : swapsWithSole [tg] e pos.line X.env = pure false := by rfl) (hw : swappedStores [tg] e X.env = pure none := by rfl)
    (h1 : (assignEach [tg] X.env).map (·.2) = [assign tg X.env] := by rfl) : SimS X Γ W (.Assign [tg] e pos) (sAsg t m) := ps_imp (ps_asg he hg hs hw h1) fun _ _ _ q => asg_ok q
/-- x, y = a, b -/
def sPar (i j : Nat) (ms : List (M CV)) : MS := fun env hp => RS.of (evA ms env hp) env fun vs hp => match vs with
  | [v, w] => .ok (.nx ((env.set i (some v)).set j (some w))) hp
  | _ => .stuck
theorem sim_par [S : Sx X Γ W k] {i j : Nat} {x y : Str} {a b : Expr} {ms : List (M CV)} {px py pt : Pos} {kt k2 : Nat} {pt2 pos : Pos} (ha : SimA X Γ W [a, b] (evA ms)) (hi : X.N[i]? = some x) (hj : X.N[j]? = some y) (hij : i ≠ j)
    (hx : X.env.scope.names.lookup x = some .local) (hy : X.env.scope.names.lookup y = some .local) (hw : swappedStores [.Tuple [.Name x px, .Name y py] kt pt] (.Tuple [a, b] k2 pt2) X.env = pure (some [x, y]))
    (hs : swapsWithSole [.Tuple [.Name x px, .Name y py] kt pt] (.Tuple [a, b] k2 pt2) pos.line X.env = pure false := by rfl) : SimS X Γ W (.Assign [.Tuple [.Name x px, .Name y py] kt pt] (.Tuple [a, b] k2 pt2) pos) (sPar i j ms) :=
  ps_imp (ps_par S.calm S.nd hi hj hij hx hy ha hw hs) fun D σ H q => by
    obtain ⟨F, env, q⟩ := rdS_first (re := reA Γ) q
    refine rd_mono q fun xs H1 ⟨ρ1, hp1, vs, r1, e1, h1, p1⟩ => ?_
    split at p1
    · obtain ⟨v, w, rfl, q1, q2⟩ := reps_two h1
      exact ⟨v, w, rfl, p1.nx r1 ((e1.set q1 i).set q2 j)⟩
    · exact p1.elim

/-! ### what is walked -/
structure ITc where
  fuel : Nat
  next : Nat → Hc → Option (Option CV)
def ItOk (Γ : Gx) (F : List Nat) (ρ₀ : Rh) (N₀ : Nat) (H₀ : Hp) (J : It) (next : Nat → Hc → Option (Option CV)) : Prop :=
  ∀ (i : Nat) (ρ : Rh) (hp : Hc) (H : Hp), Step ρ₀ N₀ H₀ ρ hp.N H → SRh Γ ρ F hp H → match next i hp with
    | none => True
    | some none => J.stop i H
    | some (some v) => J.go i H ∧ ∀ x H', J.yld i H x H' → Step ρ hp.N H ρ hp.N H' ∧ SRh Γ ρ F hp H' ∧ Rep Γ ρ hp.N H' hp.N v x
def PostI (Γ : Gx) (F : List Nat) (W : WX) (σ : L2.St) (ρ : Rh) (N : Nat) (H : Hp) (r : R ITc) (Q : It → Hp → Prop) : Prop := match r with
  | .ok it hp' => ∀ ρ' H' J, Step ρ N H ρ' hp'.N H' → SRh Γ ρ' F hp' H' → ItOk Γ F ρ' hp'.N H' J it.next → Q J H'
  | .exc c fs hp' => ∀ ρ' H' d, Step ρ N H ρ' hp'.N H' → SRh Γ ρ' F hp' H' → ExcR Γ ρ' hp'.N H' fs d → W (.ref (Γ.cl c)) d σ H'
  | .stuck => False
def rdI (Γ : Gx) (W : WX) (m : M ITc) : TI := fun σ H Q => ∃ ρ F hp env, SRh Γ ρ F hp H ∧ SRe Γ ρ hp.N H σ env ∧ PostI Γ F W σ ρ hp.N H (m env hp) Q
abbrev SimI (X : Cx) (Γ : Gx) (W : WX) (tg iter : Expr) (m : M ITc) : Prop := PI X tg iter (rdI Γ W m)
theorem pi_imp {tg e : Expr} {t t' : TI} (h : PI X tg e t) (i : ∀ σ H Q, t' σ H Q → t σ H Q) : PI X tg e t' := ⟨fun pins s σ H R I q => h.run pins s σ H R I (i σ H R q)⟩
/-- an iterator out of values -/
def mIt {α : Type} (m : M α) (f : α → Hc → Option ITc) : M ITc := fun env hp => (m env hp).bind fun a hp => match f a hp with
  | some it => .ok it hp
  | none => .stuck
theorem mIt_ok {α β : Type} {re : Re α β} {m : M α} {f : α → Hc → Option ITc} {Q : It → Hp → Prop} (h : rdI Γ W (mIt m f) σ H Q) :
    rd Γ W re m σ H fun x H1 => ∃ ρ1 F hp1 a it, SRh Γ ρ1 F hp1 H1 ∧ re ρ1 hp1.N H1 a x ∧ f a hp1 = some it ∧ ∀ J, ItOk Γ F ρ1 hp1.N H1 J it.next → Q J H1 := by
  obtain ⟨ρ, F, hp, env, r, e, p⟩ := h
  refine ⟨ρ, F, hp, env, r, e, ?_⟩
  unfold mIt at p
  revert p
  generalize m env hp = z
  intro p
  cases z with
  | stuck => exact p
  | exc c fs hp' => exact p
  | ok a hp' =>
    intro ρ' H' x s r' e'
    have p' : PostI Γ F W σ ρ hp.N H (match f a hp' with | some it => .ok it hp' | none => .stuck) Q := p
    cases q : f a hp' with
    | none => rw [q] at p'; exact p'.elim
    | some it =>
      rw [q] at p'
      exact ⟨ρ', F, hp', a, it, r', e', q, fun J hJ => p' ρ' H' J s r' hJ⟩
def snap (xs : List CV) : ITc := ⟨xs.length + 1, fun i _ => some xs[i]?⟩
def live (n len : Nat) : ITc := ⟨len + 1, fun i hp => match hp.os[n]? with
  | some (.lst xs) => some xs[i]?
  | _ => none⟩
/-- a list or a tuple -/
def itSeq (v : CV) (hp : Hc) : Option ITc := match v with
  | .lst xs => some (snap xs)
  | .ref n => match hp.os[n]? with
    | some (.lst xs) => some (live n xs.length)
    | _ => none
  | _ => none
def itTup (v : CV) (_ : Hc) : Option ITc := (tupItems v).map snap
theorem itok_tup {ρ₀ N₀ H₀ a xs vs} (hn : N₀ ≤ N₀) (h : insU ρ₀ N₀ H₀ a (.tup vs) ∨ WrT Γ.K a vs) (q : Reps Γ ρ₀ N₀ H₀ N₀ xs vs) : ItOk Γ F ρ₀ N₀ H₀ (Itt Γ.K a) (snap xs).next := by
  intro i ρ hp H s r
  have h' : SqT Γ.K H a vs := sqT_wr (h.imp (s.keepI _ _ rfl) id)
  have q' := q.mono s (Nat.le_refl _) s.le
  show match some xs[i]? with | none => True | some none => _ | some (some v) => _
  cases e : xs[i]? with
  | none => exact ⟨vs, h', q'.none e⟩
  | some v =>
    obtain ⟨w, e1, q1⟩ := q'.get e
    refine ⟨⟨vs, w, h', e1⟩, fun x H' y => ?_⟩
    obtain ⟨rfl, hy⟩ := y
    have e2 := hy vs h'
    rw [e1] at e2
    cases e2
    exact ⟨Step.refl, r, q1⟩
theorem itok_lst {ρ₀ N₀ H₀ a xs vs} (h : RdU ρ₀ N₀ H₀ a (.lst vs) ∨ WrL Γ.K a vs) (q : Reps Γ ρ₀ N₀ H₀ 0 xs vs) : ItOk Γ F ρ₀ N₀ H₀ (Itl Γ.K a) (snap xs).next := by
  intro i ρ hp H s r
  have h' := sqL_of (Γ := Γ) (h.imp (s.keep _ _ rfl) id)
  have q' : Reps Γ ρ hp.N H hp.N xs vs := q.mono s (Nat.zero_le _) (Nat.zero_le _)
  show match some xs[i]? with | none => True | some none => _ | some (some v) => _
  cases e : xs[i]? with
  | none => exact ⟨vs, h', q'.none e⟩
  | some v =>
    obtain ⟨w, e1, q1⟩ := q'.get e
    refine ⟨⟨vs, w, h', e1⟩, fun x H' y => ?_⟩
    obtain ⟨rfl, hy⟩ := y
    have e2 := hy vs h'
    rw [e1] at e2
    cases e2
    exact ⟨Step.refl, r, q1⟩
theorem itok_live {ρ₀ N₀ H₀ n len} (hn : n < N₀) : ItOk Γ F ρ₀ N₀ H₀ (Itl Γ.K (ρ₀ n)) (live n len).next := by
  intro i ρ hp H s r
  show match (match hp.os[n]? with | some (.lst xs) => some xs[i]? | _ => none) with | none => True | some none => _ | some (some v) => _
  split
  · trivial
  · rename_i e
    split at e
    · rename_i xs he
      obtain ⟨vs, h1, h2⟩ := r.obj n _ he
      rw [s.agree n hn] at h1
      have e' : xs[i]? = none := Option.some.inj e
      exact ⟨vs, .inl (.inl h1), h2.none e'⟩
    · cases e
  · rename_i v e
    split at e
    · rename_i xs he
      obtain ⟨vs, h1, h2⟩ := r.obj n _ he
      rw [s.agree n hn] at h1
      have e' : xs[i]? = some v := Option.some.inj e
      obtain ⟨w, e1, q1⟩ := h2.get e'
      have h' : SqL Γ.K H (ρ₀ n) vs := .inl (.inl h1)
      refine ⟨⟨vs, w, h', e1⟩, fun x H' y => ?_⟩
      obtain ⟨rfl, hy⟩ := y
      have e2 := hy vs h'
      rw [e1] at e2
      cases e2
      exact ⟨Step.refl, r, q1⟩
    · cases e
theorem sim_itup [S : Sx X Γ W k] {tg e : Expr} {m : M CV} (h : SimE X Γ W e m) : SimI X Γ W tg e (mIt m itTup) := pi_imp (pi_tup h) fun σ H Q q => by
  refine rd_mono (mIt_ok (re := reV Γ) q) fun x H1 ⟨ρ1, F, hp1, a, it, r1, h1, e1, hJ⟩ => ?_
  unfold itTup at e1
  have h1' : Rep Γ ρ1 hp1.N H1 hp1.N a x := h1
  cases a with
  | tup xs =>
    cases e1
    unfold Rep at h1'
    obtain ⟨p, vs, rfl, q1, q2⟩ := h1'
    refine ⟨p, rfl, ⟨vs, S.K ▸ sqT_of q1⟩, ?_⟩
    rw [S.K]
    exact hJ _ (itok_tup (Nat.le_refl _) (.inl q1) q2)
  | wtp xs =>
    cases e1
    unfold Rep at h1'
    obtain ⟨p, vs, rfl, q1, q2⟩ := h1'
    refine ⟨p, rfl, ⟨vs, S.K ▸ sqT_wr q1⟩, ?_⟩
    rw [S.K]
    exact hJ _ (itok_tup (Nat.le_refl _) q1 q2)
  | _ => cases e1
theorem sim_ilst [S : Sx X Γ W k] {tg e : Expr} {m : M CV} (h : SimE X Γ W e m) : SimI X Γ W tg e (mIt m itSeq) := pi_imp (pi_list h) fun σ H Q q => by
  refine rd_mono (mIt_ok (re := reV Γ) q) fun x H1 ⟨ρ1, F, hp1, a, it, r1, h1, e1, hJ⟩ => ?_
  have h1' : Rep Γ ρ1 hp1.N H1 hp1.N a x := h1
  unfold itSeq at e1
  split at e1
  · cases e1
    unfold Rep at h1'
    obtain ⟨p, vs, rfl, q1, q2⟩ := h1'
    refine ⟨p, rfl, ⟨vs, S.K ▸ sqL_of q1⟩, ?_⟩
    rw [S.K]
    exact hJ _ (itok_lst q1 q2)
  · split at e1
    · rename_i he
      cases e1
      unfold Rep at h1'
      obtain ⟨hn, rfl⟩ := h1'
      obtain ⟨vs, g1, g2⟩ := r1.obj _ _ he
      refine ⟨_, rfl, ⟨vs, .inl (.inl g1)⟩, ?_⟩
      rw [S.K]
      exact hJ _ (itok_live hn)
    · cases e1
  · cases e1
end
end Bl

/-! Own layer, part H: for, while, ranges, enumerate, list comprehensions. -/
namespace Bl
open PySem PySem.Spec PyProof.Rows L2
section
variable {X : Cx} {Γ : Gx} {W : WX} {k : Nat} {F : List Nat} {ρ ρ' : Rh} {N N' : Nat} {H H' : Hp} {σ : L2.St} {env : En} {hp : Hc} {D : Ends}

/-! ### for -/
def forN (next : Nat → Hc → Option (Option CV)) (tg : Tgt) (body : MS) : Nat → Nat → MS
  | 0, _, _, _ => .stuck
  | n + 1, i, env, hp => match next i hp with
    | none => .stuck
    | some none => .ok (.nx env) hp
    | some (some v) => match tg.f v env with
      | none => .stuck
      | some env1 => match body env1 hp with
        | .stuck => .stuck
        | .ok f hp2 => match f with
          | .nx env2 => forN next tg body n (i + 1) env2 hp2
          | .ct env2 => forN next tg body n (i + 1) env2 hp2
          | .bk env2 => .ok (.nx env2) hp2
          | .rt v => .ok (.rt v) hp2
          | .ex c fs e => .ok (.ex c fs e) hp2
def sFor (mi : M ITc) (tg : Tgt) (body : MS) : MS := fun env hp => RS.of (mi env hp) env fun it hp => forN it.next tg body it.fuel 0 env hp
theorem for_ok {mi : M ITc} {tg : Tgt} {body : MS} (h : rdS Γ W (sFor mi tg body) D σ H) : tFor (rdI Γ W mi) (rdG Γ tg) (rdS Γ W body) D σ H := by
  obtain ⟨ρ, F, hp, env, r, e, p⟩ := h
  refine ⟨ρ, F, hp, env, r, e, ?_⟩
  unfold sFor at p
  revert p
  generalize mi env hp = z
  intro p
  cases z with
  | stuck => exact p
  | exc c fs hp' => exact fun ρ' H' d s r' q => p ρ' H' σ d s r' q (e.mono s)
  | ok it hp' =>
    intro ρ1 H1 J s1 r1 hJ
    have p1 : PostS Γ F W ρ1 hp'.N H1 (forN it.next tg body it.fuel 0 env hp') D := PostS.step s1 p
    have e1 := e.mono s1
    refine ⟨fun i m σ2 H2 => ∃ ρ2 hp2 env2, Step ρ1 hp'.N H1 ρ2 hp2.N H2 ∧ SRh Γ ρ2 F hp2 H2 ∧ SRe Γ ρ2 hp2.N H2 σ2 env2 ∧ PostS Γ F W ρ2 hp2.N H2 (forN it.next tg body m i env2 hp2) D,
      ⟨it.fuel, ρ1, hp', env, Step.refl, r1, e1, p1⟩, ?_⟩
    rintro i m σ2 H2 ⟨ρ2, hp2, env2, s2, r2, e2, p2⟩
    cases m with
    | zero => exact (show False from p2).elim
    | succ m =>
      have hi := hJ i ρ2 hp2 H2 s2 r2
      have p2' : PostS Γ F W ρ2 hp2.N H2 (match it.next i hp2 with
        | none => .stuck
        | some none => .ok (.nx env2) hp2
        | some (some v) => match tg.f v env2 with
          | none => .stuck
          | some env1 => match body env1 hp2 with
            | .stuck => .stuck
            | .ok f hp3 => match f with
              | .nx env3 => forN it.next tg body m (i + 1) env3 hp3
              | .ct env3 => forN it.next tg body m (i + 1) env3 hp3
              | .bk env3 => .ok (.nx env3) hp3
              | .rt v => .ok (.rt v) hp3
              | .ex c fs e => .ok (.ex c fs e) hp3) D := p2
      clear p2
      revert hi p2'
      generalize it.next i hp2 = w
      intro hi p2
      match w with
      | none => exact p2.elim
      | some none => exact .inl ⟨hi, p2.nx r2 e2⟩
      | some (some v) =>
        obtain ⟨go, hy⟩ := hi
        refine .inr ⟨go, fun σ3 H3 => ∃ ρ3 hp3 env3, Step ρ1 hp'.N H1 ρ3 hp3.N H3 ∧ SRh Γ ρ3 F hp3 H3 ∧ SRe Γ ρ3 hp3.N H3 σ3 env3 ∧ PostS Γ F W ρ3 hp3.N H3 (forN it.next tg body m (i + 1) env3 hp3) D,
          fun σ3 H3 q => ⟨m, Nat.lt_succ_self m, q⟩, fun x H4 yl => ?_⟩
        obtain ⟨s4, r4, h4⟩ := hy x H4 yl
        have e4 := e2.mono s4
        cases q : tg.f v env2 with
        | none => simp only [q] at p2; exact p2.elim
        | some env1 =>
          simp only [q] at p2
          refine ⟨ρ2, F, hp2, env2, v, env1, r4, e4, h4, q, fun σ5 e5 _ => ⟨ρ2, F, hp2, env1, r4, e5, ?_⟩⟩
          revert p2
          generalize body env1 hp2 = b
          intro p2
          have s4' := s2.trans s4
          cases b with
          | stuck => exact p2
          | ok f hp3 =>
            have p3 := PostS.step s4 p2
            cases f with
            | nx env3 => exact fun ρ6 H6 σ6 s6 r6 e6 => ⟨ρ6, hp3, env3, s4'.trans s6, r6, e6, PostS.step s6 p3⟩
            | ct env3 => exact fun ρ6 H6 σ6 s6 r6 e6 => ⟨ρ6, hp3, env3, s4'.trans s6, r6, e6, PostS.step s6 p3⟩
            | bk env3 => exact p3
            | rt v => exact p3
            | ex c fs e => exact p3
theorem sim_for [S : Sx X Γ W k] {tg iter : Expr} {body : List Stmt} {mi : M ITc} {t : Tgt} {b : MS} {pos : Pos} (hp : PassesOwn (model X.prog X.w) X.A X.env X.xe) (hi : SimI X Γ W tg iter mi) (hg : SimG X Γ tg t) (hb : SimSs X Γ W body b)
    (hs : ∀ x, foldedSetIterable iter X.env x = pure x := by intro _; rfl) : SimS X Γ W (.For tg iter body [] pos) (sFor mi t b) := ps_imp (ps_for hp S.calm hi hg hb hs) fun _ _ _ q => for_ok q

/-! ### while -/
def whileN (c : M Bool) (body : MS) : Nat → MS
  | 0, _, _ => .stuck
  | n + 1, env, hp => RS.of (c env hp) env fun b hp => if b then (match body env hp with
      | .stuck => .stuck
      | .ok f hp2 => match f with
        | .nx env2 => whileN c body n env2 hp2
        | .ct env2 => whileN c body n env2 hp2
        | .bk env2 => .ok (.nx env2) hp2
        | .rt v => .ok (.rt v) hp2
        | .ex c fs e => .ok (.ex c fs e) hp2) else .ok (.nx env) hp
theorem while_ok {c : M Bool} {body : MS} {n : Nat} (h : rdS Γ W (whileN c body n) D σ H) : tWhile (rd Γ W reB c) (rdS Γ W body) D σ H := by
  obtain ⟨ρ, F, hp, env, r, e, p⟩ := h
  refine ⟨fun m σ2 H2 => ∃ ρ2 hp2 env2, SRh Γ ρ2 F hp2 H2 ∧ SRe Γ ρ2 hp2.N H2 σ2 env2 ∧ PostS Γ F W ρ2 hp2.N H2 (whileN c body m env2 hp2) D, ⟨n, ρ, hp, env, r, e, p⟩, ?_⟩
  rintro m σ2 H2 ⟨ρ2, hp2, env2, r2, e2, p2⟩
  cases m with
  | zero => exact (show False from p2).elim
  | succ m =>
    refine rd_mono (rdS_next (re := reB) r2 e2 (show PostS Γ F W ρ2 hp2.N H2 (RS.of (c env2 hp2) env2 _) D from p2)) fun x H3 ⟨ρ3, hp3, b, s3, r3, e3, h3, p3⟩ => ?_
    cases (show b = x from h3)
    cases x with
    | false =>
      rw [if_neg Bool.false_ne_true] at p3 ⊢
      exact p3.nx r3 e3
    | true =>
      rw [if_pos rfl] at p3 ⊢
      refine ⟨fun σ4 H4 => ∃ ρ4 hp4 env4, SRh Γ ρ4 F hp4 H4 ∧ SRe Γ ρ4 hp4.N H4 σ4 env4 ∧ PostS Γ F W ρ4 hp4.N H4 (whileN c body m env4 hp4) D, fun σ4 H4 q => ⟨m, Nat.lt_succ_self m, q⟩, ρ3, F, hp3, env2, r3, e3, ?_⟩
      revert p3
      generalize body env2 hp3 = z
      intro p3
      cases z with
      | stuck => exact p3
      | ok f hp4 =>
        cases f with
        | nx env3 => exact fun ρ6 H6 σ6 s6 r6 e6 => ⟨ρ6, hp4, env3, r6, e6, PostS.step s6 p3⟩
        | ct env3 => exact fun ρ6 H6 σ6 s6 r6 e6 => ⟨ρ6, hp4, env3, r6, e6, PostS.step s6 p3⟩
        | bk env3 => exact p3
        | rt v => exact p3
        | ex c fs e => exact p3
theorem sim_while {c : Expr} {body : List Stmt} {tc : M Bool} {b : MS} {n : Nat} {pos : Pos} (hp : PassesOwn (model X.prog X.w) X.A X.env X.xe) (hc : SimT X Γ W c tc) (hb : SimSs X Γ W body b) : SimS X Γ W (.While c body [] pos) (whileN tc b n) :=
  ps_imp (ps_while hp hc hb) fun _ _ _ q => while_ok q

/-! ### ranges -/
def rngI (lo : Int) (n : Nat) : ITc := ⟨n + 1, fun i _ => some (if i < n then some (.int (lo + i)) else none)⟩
theorem itok_rng {lo : Int} {n : Nat} : ItOk Γ F ρ N H (Itr lo n) (rngI lo n).next := by
  intro i ρ2 hp2 H2 s r
  show match some (if i < n then some (CV.int (lo + i)) else none) with | none => True | some none => _ | some (some v) => _
  by_cases hl : i < n
  · rw [if_pos hl]
    refine ⟨hl, fun x H' y => ?_⟩
    obtain ⟨rfl, rfl⟩ := y
    exact ⟨Step.refl, r, repI⟩
  · rw [if_neg hl]
    exact Nat.le_of_not_lt hl
def okR (i : Int) : Bool := decide (-(2 ^ 62) ≤ i) && decide (i < 2 ^ 62)
theorem okR_and {i : Int} (h : okR i = true) : -(2 ^ 62) ≤ i ∧ i < 2 ^ 62 := by
  unfold okR at h
  simp only [Bool.and_eq_true, decide_eq_true_eq] at h
  exact h
def itR1 : List CV → Hc → Option ITc
  | [.int j], _ => if okR j = true then some (rngI 0 j.toNat) else none
  | _, _ => none
def itR2 : List CV → Hc → Option ITc
  | [.int i, .int j], _ => if (okR i && okR j) = true then some (rngI i (j - i).toNat) else none
  | _, _ => none
theorem sim_r1 {tg a : Expr} {ms : List (M CV)} {p pos : Pos} (hg : Gl X "range") (hm : X.mg "range" = none) (ha : SimA X Γ W [a] (evA ms)) (hs : starEach [a] X.env = [(false, eval a X.env)] := by rfl) : SimI X Γ W tg (.Call (.Name "range" p) [a] [] pos) (mIt (evA ms) itR1) :=
  pi_imp (pi_range1 hg hm ha hs) fun σ H Q q => by
    refine rd_mono (mIt_ok (re := reA Γ) q) fun xs H1 ⟨ρ1, F, hp1, as, it, r1, h1, e1, hJ⟩ => ?_
    unfold itR1 at e1
    split at e1
    · split at e1
      · rename_i hk
        cases e1
        obtain ⟨v, rfl, h2⟩ := Reps.one h1
        unfold Rep at h2; subst h2
        exact ⟨_, rfl, (okR_and hk).1, (okR_and hk).2, hJ _ itok_rng⟩
      · cases e1
    · cases e1
theorem sim_r2 {tg a b : Expr} {ms : List (M CV)} {p pos : Pos} (hg : Gl X "range") (hm : X.mg "range" = none) (ha : SimA X Γ W [a, b] (evA ms)) (hs : starEach [a, b] X.env = [(false, eval a X.env), (false, eval b X.env)] := by rfl) (hs2 : starEach [b] X.env = [(false, eval b X.env)] := by rfl) :
    SimI X Γ W tg (.Call (.Name "range" p) [a, b] [] pos) (mIt (evA ms) itR2) :=
  pi_imp (pi_range2 hg hm ha hs hs2) fun σ H Q q => by
    refine rd_mono (mIt_ok (re := reA Γ) q) fun xs H1 ⟨ρ1, F, hp1, as, it, r1, h1, e1, hJ⟩ => ?_
    unfold itR2 at e1
    split at e1
    · split at e1
      · rename_i hk
        rw [Bool.and_eq_true] at hk
        cases e1
        obtain ⟨v, w, rfl, h2, h3⟩ := reps_two h1
        unfold Rep at h2 h3; subst h2 h3
        exact ⟨_, _, rfl, ⟨(okR_and hk.1).1, (okR_and hk.1).2, (okR_and hk.2).1, (okR_and hk.2).2⟩, hJ _ itok_rng⟩
      · cases e1
    · cases e1

/-! ### enumerate of a list -/
def enumI (it : ITc) : ITc := ⟨it.fuel, fun i hp => match it.next i hp with
  | some (some v) => some (some (.tup [.int i, v]))
  | some none => some none
  | none => none⟩
theorem rep_pair {ρ : Rh} {hp : Hc} {H : Hp} {T : Addr} {a b : CV} {x y : V} (r : SRh Γ ρ F hp H) (hT : H T = none) (ha : Rep Γ ρ hp.N H hp.N a x) (hb : Rep Γ ρ hp.N H hp.N b y) : Rep Γ ρ hp.N (upd H T (.tup [x, y])) hp.N (.tup [a, b]) (.ref T) :=
  rep_newT r hT (by unfold Reps; exact ⟨x, [y], rfl, ha, reps1 hb⟩)
theorem itok_enumL {a : Addr} {it : ITc} (h : ItOk Γ F ρ N H (Itl Γ.K a) it.next) : ItOk Γ F ρ N H (Ite Γ.K a) (enumI it).next := by
  intro i ρ2 hp2 H2 s r
  have q := h i ρ2 hp2 H2 s r
  show match (match it.next i hp2 with | some (some v) => some (some (CV.tup [.int i, v])) | some none => some none | none => none) with | none => True | some none => _ | some (some v) => _
  revert q
  generalize it.next i hp2 = w
  intro q
  match w with
  | none => trivial
  | some none => exact q
  | some (some v) =>
    obtain ⟨⟨xs, x, g1, g2⟩, hy⟩ := q
    refine ⟨⟨xs, x, g1, g2⟩, fun y H' yl => ?_⟩
    obtain ⟨T, z, rfl, hT, rfl, hz⟩ := yl
    have ez := hz xs g1
    obtain ⟨_, r', h'⟩ := hy z H2 ⟨rfl, hz⟩
    exact ⟨step_new hT, r.new hT, rep_pair r hT repI h'⟩
def itEn : List CV → Hc → Option ITc
  | [x], hp => (itSeq x hp).map enumI
  | _, _ => none
theorem itSeq_ok {it : ITc} {x : CV} {v : V} (r : SRh Γ ρ F hp H) (h : Rep Γ ρ hp.N H hp.N x v) (e : itSeq x hp = some it) : ∃ a vs, v = .ref a ∧ SqL Γ.K H a vs ∧ ItOk Γ F ρ hp.N H (Itl Γ.K a) it.next := by
  unfold itSeq at e
  split at e
  · cases e
    unfold Rep at h
    obtain ⟨p, vs, rfl, q1, q2⟩ := h
    exact ⟨p, vs, rfl, sqL_of q1, itok_lst q1 q2⟩
  · split at e
    · rename_i he
      cases e
      unfold Rep at h
      obtain ⟨hn, rfl⟩ := h
      obtain ⟨vs, g1, g2⟩ := r.obj _ _ he
      exact ⟨_, vs, rfl, .inl (.inl g1), itok_live hn⟩
    · cases e
  · cases e
theorem sim_ien [S : Sx X Γ W k] {a : Expr} {ms : List (M CV)} {p pos tpos : Pos} {elts : List Expr} {kk : Nat} (hg : Gl X "enumerate") (hm : X.mg "enumerate" = none) (ha : SimA X Γ W [a] (evA ms)) (hs : starEach [a] X.env = [(false, eval a X.env)] := by rfl) :
    SimI X Γ W (.Tuple elts kk tpos) (.Call (.Name "enumerate" p) [a] [] pos) (mIt (evA ms) itEn) :=
  pi_imp (pi_enum hg hm ha hs) fun σ H Q q => by
    refine rd_mono (mIt_ok (re := reA Γ) q) fun xs H1 ⟨ρ1, F, hp1, as, it, r1, h1, e1, hJ⟩ => ?_
    unfold itEn at e1
    split at e1
    · rename_i x
      cases q : itSeq x hp1 with
      | none => rw [q] at e1; cases e1
      | some it0 =>
        rw [q] at e1; cases e1
        obtain ⟨v, rfl, h2⟩ := Reps.one h1
        obtain ⟨b, vs, rfl, g1, g2⟩ := itSeq_ok r1 h2 q
        refine ⟨b, vs, rfl, S.K ▸ g1, ?_⟩
        rw [S.K]
        exact hJ _ (itok_enumL g2)
    · cases e1
end
end Bl

/-! Own layer, part I: list comprehensions. -/
namespace Bl
open PySem PySem.Spec PyProof.Rows L2
/-- the wish where nothing may be raised -/
def W0 : WX := fun _ _ _ _ => False
theorem takesW0 {X : Cx} : Takes X W0 := takes0
instance {X : Cx} {Γ : Gx} {W : WX} {k : Nat} [S : Sx X Γ W k] {s : Shared} {H : Hp} {scope : Scope} {cenv : Env} {fp : List Addr} : Sx (X.blk s H scope cenv fp) Γ W0 k :=
  ⟨S.K, S.calm, S.nd, S.room, takesW0⟩
section
variable {X : Cx} {Γ : Gx} {W : WX} {k : Nat} {F : List Nat} {ρ ρ' : Rh} {N N' : Nat} {H H' : Hp} {σ : L2.St} {env : En} {hp : Hc} {D : Ends}
def wipeE (env : En) : List Nat → En
  | [] => env
  | v :: vs => (wipeE env vs).set v none
theorem SRe.unset (e : SRe Γ ρ N H σ env) (i : Nat) : SRe Γ ρ N H (σ.set i none) (env.set i none) := by
  refine ⟨by rw [List.length_set, List.length_set]; exact e.len, fun j w q => ?_⟩
  by_cases hij : i = j
  · subst hij
    by_cases hl : i < env.length
    · rw [List.getElem?_set_self hl] at q; cases q
    · rw [List.getElem?_eq_none (by rw [List.length_set]; omega)] at q; cases q
  · rw [List.getElem?_set_ne hij] at q ⊢
    exact e.get j w q
theorem SRe.wipe (e : SRe Γ ρ N H σ env) : ∀ vs : List Nat, SRe Γ ρ N H (L2.wipe σ vs) (wipeE env vs)
  | [] => e
  | v :: vs => by
    unfold L2.wipe wipeE
    exact (SRe.wipe e vs).unset v
theorem wipe_in {σ : L2.St} : ∀ {vs : List Nat} {j : Nat}, j ∈ vs → j < σ.length → (L2.wipe σ vs)[j]? = some none
  | v :: vs, j, h, hl => by
    unfold L2.wipe
    by_cases hv : v = j
    · subst hv
      rw [List.getElem?_set_self (by rw [wipe_length]; exact hl)]
    · rw [List.getElem?_set_ne hv]
      rcases List.mem_cons.mp h with e | h
      · exact absurd e.symm hv
      · exact wipe_in h hl
theorem wipe_agr {σ σ' : L2.St} {sl vs : List Nat} (a : Agr sl (L2.wipe σ vs) σ') (h : ∀ j ∈ sl, j ∈ vs) : L2.wipe σ' vs = L2.wipe σ vs := by
  have hl : σ'.length = σ.length := a.1.trans (wipe_length σ vs)
  refine List.ext_getElem? fun j => ?_
  by_cases hj : j < σ.length
  · by_cases hv : j ∈ vs
    · rw [wipe_in hv (by rw [hl]; exact hj), wipe_in hv hj]
    · rw [wipe_out hv, wipe_out hv, a.2 j fun z => hv (h j z), wipe_out hv]
  · rw [List.getElem?_eq_none (by rw [wipe_length, hl]; omega), List.getElem?_eq_none (by rw [wipe_length]; omega)]

/-- the value's turn: it is appended to the list being made -/
def compAdd (id : Nat) (y : CV) (hp : Hc) : Option Hc := match hp.os[id]? with
  | some (.lst acc) => if (decide (acc.length < 16777216) && decide (hp.fl ≤ id)) = true then some (hp.set id (.lst (acc ++ [y]))) else none
  | _ => none
def compN (next : Nat → Hc → Option (Option CV)) (tg : Tgt) (tests : M Bool) (elt : M CV) (env : En) (id : Nat) : Nat → Nat → Hc → Option Hc
  | 0, _, _ => none
  | n + 1, i, hp => match next i hp with
    | none => none
    | some none => some hp
    | some (some v) => match tg.f v env with
      | none => none
      | some env1 => match tests env1 hp with
        | .ok b hp1 => if b then (match elt env1 hp1 with
            | .ok y hp2 => match compAdd id y hp2 with
              | some hp3 => compN next tg tests elt env id n (i + 1) hp3
              | none => none
            | _ => none) else compN next tg tests elt env id n (i + 1) hp1
        | _ => none
def eComp (mi : M ITc) (tg : Tgt) (tests : M Bool) (elt : M CV) (own : List Nat) : M CV := fun env hp => (mi env hp).bind fun it hp =>
  match compN it.next tg tests elt (wipeE env own) hp.N it.fuel 0 (hp.push (.lst [])) with
  | some hp' => .ok (.ref hp.N) hp'
  | none => .stuck
def tTrue : M Bool := fun _ hp => .ok true hp
abbrev SimTs (X : Cx) (Γ : Gx) (W : WX) (cs : List Expr) (m : M Bool) : Prop := PTs X cs (rd Γ W reB m)
theorem sim_tests0 : SimTs X Γ W [] tTrue := ⟨fun pins s σ H Q I h => pts_nil.run pins s σ H Q I (by
  obtain ⟨ρ, F, hp, env, r, e, p⟩ := h
  exact p.ok r rfl)⟩
theorem sim_tests1 {c : Expr} {t : M Bool} (h : SimT X Γ W c t) : SimTs X Γ W [c] t := pts_one h
/-- the list at D is the clean object id -/
def Made (Γ : Gx) (F : List Nat) (ρ₀ : Rh) (N₀ : Nat) (H₀ : Hp) (D : Addr) (ρ : Rh) (hp : Hc) (H : Hp) : Prop :=
  Step ρ₀ N₀ H₀ ρ hp.N H ∧ SRh Γ ρ F hp H ∧ N₀ < hp.N ∧ ρ N₀ = D
theorem compAdd_ok {ρ₀ N₀ H₀ D ρ1 hp1 H1 ρ2 hp2 H2 y x hp3} (m : Made Γ F ρ₀ N₀ H₀ D ρ1 hp1 H1) (s : Step ρ1 hp1.N H1 ρ2 hp2.N H2) (r : SRh Γ ρ2 F hp2 H2) (h : Rep Γ ρ2 hp2.N H2 hp2.N y x) (e : compAdd N₀ y hp2 = some hp3) :
    ∃ acc, H2 D = some (.lst acc) ∧ acc.length < sizeLine ∧ Made Γ F ρ₀ N₀ H₀ D ρ2 hp3 (upd H2 D (.lst (acc ++ [x]))) := by
  unfold compAdd at e
  split at e
  · rename_i acc ha
    split at e
    · rename_i hc
      cases e
      simp only [Bool.and_eq_true, decide_eq_true_eq] at hc
      obtain ⟨vs, g1, g2⟩ := r.obj N₀ _ ha
      have hD : ρ2 N₀ = D := (s.agree N₀ m.2.2.1).trans m.2.2.2
      have hn : N₀ < hp2.N := Nat.lt_of_lt_of_le m.2.2.1 s.le
      rw [hD] at g1
      refine ⟨vs, g1, by rw [← g2.len, sizeLine_eq]; exact hc.1, ?_, ?_, ?_, hD⟩
      · rw [Hc.set_N]
        have q : Step ρ2 hp2.N H2 ρ2 hp2.N (upd H2 (ρ2 N₀) (.lst (vs ++ [x]))) := step_write hn
        rw [hD] at q
        exact (m.1.trans s).trans q
      · rw [← hD]
        refine r.write hn (fun hl => absurd hl (Nat.not_lt.mpr hc.2)) (fun f hf q => limO_mono hf _ q) ⟨_, upd_same, ?_⟩
        exact (g2.app (reps1 h)).mono (step_write hn) (Nat.le_refl _) (Nat.le_refl _)
      · rw [Hc.set_N]; exact hn
    · cases e
  · cases e
theorem comp_ok {mi : M ITc} {tg : Tgt} {tests : M Bool} {elt : M CV} {own : List Nat} (hsl : ∀ j ∈ tg.sl, j ∈ own) {Q : VK} (h : rd Γ W (reV Γ) (eComp mi tg tests elt own) σ H Q) :
    tLc (rdI Γ W mi) (rdG Γ tg) (rd Γ W0 reB tests) (rd Γ W0 (reV Γ) elt) own σ H Q := by
  obtain ⟨ρ, F, hp, env, r, e, p⟩ := h
  refine ⟨ρ, F, hp, env, r, e, ?_⟩
  unfold eComp at p
  revert p
  generalize mi env hp = z
  intro p
  cases z with
  | stuck => exact p
  | exc c fs hp' => exact p
  | ok it hp' =>
    intro ρ1 H1 J s1 r1 hJ D hD
    have e1 := e.mono s1
    have p1 : Post Γ F W σ ρ hp.N H (reV Γ) (match compN it.next tg tests elt (wipeE env own) hp'.N it.fuel 0 (hp'.push (.lst [])) with | some hp2 => .ok (.ref hp'.N) hp2 | none => .stuck) Q := p
    cases hres : compN it.next tg tests elt (wipeE env own) hp'.N it.fuel 0 (hp'.push (.lst [])) with
    | none => rw [hres] at p1; exact p1.elim
    | some hpE =>
      rw [hres] at p1
      have m0 : Made Γ F ρ1 hp'.N H1 D (ext ρ1 hp'.N D) (hp'.push (.lst [])) (upd H1 D (.lst [])) := by
        refine ⟨?_, srh_newL r1 hD (by unfold Reps; rfl), ?_, ext_at⟩
        · rw [Hc.push_N]; exact step_alloc hD
        · rw [Hc.push_N]; exact Nat.lt_succ_self _
      refine ⟨fun i m H2 => ∃ ρ2 hp2, Made Γ F ρ1 hp'.N H1 D ρ2 hp2 H2 ∧ compN it.next tg tests elt (wipeE env own) hp'.N m i hp2 = some hpE, ⟨it.fuel, _, _, m0, hres⟩, ?_⟩
      rintro i m H2 ⟨ρ2, hp2, m2, h2⟩
      cases m with
      | zero => simp [compN] at h2
      | succ m =>
        have hi := hJ i ρ2 hp2 H2 m2.1 m2.2.1
        unfold compN at h2
        revert hi h2
        generalize it.next i hp2 = w
        intro hi h2
        match w with
        | none => cases h2
        | some none =>
          cases h2
          refine .inl ⟨hi, p1 ρ2 H2 (.ref D) (s1.trans m2.1) m2.2.1 ?_⟩
          show Rep Γ ρ2 hpE.N H2 hpE.N (.ref hp'.N) (.ref D)
          unfold Rep
          exact ⟨m2.2.2.1, by rw [m2.2.2.2]⟩
        | some (some v) =>
          obtain ⟨go, hy⟩ := hi
          refine .inr ⟨go, fun H3 => ∃ ρ3 hp3, Made Γ F ρ1 hp'.N H1 D ρ3 hp3 H3 ∧ compN it.next tg tests elt (wipeE env own) hp'.N m (i + 1) hp3 = some hpE, fun H3 q => ⟨m, Nat.lt_succ_self m, q⟩, fun x H4 yl => ?_⟩
          obtain ⟨s4, r4, h4⟩ := hy x H4 yl
          have e4 : SRe Γ ρ2 hp2.N H4 (L2.wipe σ own) (wipeE env own) := ((e1.mono m2.1).mono s4).wipe own
          have m4 : Made Γ F ρ1 hp'.N H1 D ρ2 hp2 H4 := ⟨m2.1.trans s4, r4, m2.2.2.1, m2.2.2.2⟩
          have h2' : (match tg.f v (wipeE env own) with
            | none => none
            | some env1 => match tests env1 hp2 with
              | .ok b hp1 => if b then (match elt env1 hp1 with
                  | .ok y hp2 => match compAdd hp'.N y hp2 with
                    | some hp3 => compN it.next tg tests elt (wipeE env own) hp'.N m (i + 1) hp3
                    | none => none
                  | _ => none) else compN it.next tg tests elt (wipeE env own) hp'.N m (i + 1) hp1
              | _ => none) = some hpE := h2
          clear h2
          split at h2'
          · cases h2'
          · rename_i env1 q1
            refine ⟨ρ2, F, hp2, _, v, env1, r4, e4, h4, q1, fun σ5 e5 a5 => ⟨wipe_agr a5 hsl, ρ2, F, hp2, env1, r4, e5, ?_⟩⟩
            split at h2'
            · rename_i b hp5 q2
              rw [q2]
              intro ρ6 H6 b' s6 r6 hb
              cases (show b = b' from hb)
              have m6 : Made Γ F ρ1 hp'.N H1 D ρ6 hp5 H6 := ⟨m4.1.trans s6, r6, Nat.lt_of_lt_of_le m4.2.2.1 s6.le, (s6.agree _ m4.2.2.1).trans m4.2.2.2⟩
              cases b with
              | false =>
                rw [if_neg Bool.false_ne_true] at h2' ⊢
                exact ⟨ρ6, hp5, m6, h2'⟩
              | true =>
                rw [if_pos rfl] at h2' ⊢
                refine ⟨ρ6, F, hp5, env1, r6, e5.mono s6, ?_⟩
                split at h2'
                · rename_i y hp7 q3
                  rw [q3]
                  intro ρ8 H8 x8 s8 r8 h8
                  split at h2'
                  · rename_i hp9 q4
                    obtain ⟨acc, g1, g2, g3⟩ := compAdd_ok m6 s8 r8 h8 q4
                    exact ⟨acc, g1, g2, ρ8, hp9, g3, h2'⟩
                  · cases h2'
                · cases h2'
            · cases h2'
theorem sim_comp [S : Sx X Γ W k] {elt tg iter : Expr} {ifs : List Expr} {scope : Scope} {own : List (Str × Nat)} {pos : Pos} {mi : M ITc} {t : Tgt} {mt : M Bool} {me : M CV} (ok : BlkOk X.N X.env.scope scope own) (hi : SimI X Γ W tg iter mi)
    (hg : ∀ (s : Shared) (H : Hp) (C : Addr) (cl : List (Str × Addr)) (fp : List Addr), SimG (X.blk s H scope (compEnvC scope cl C X.env) fp) Γ tg t)
    (ht : ∀ (s : Shared) (H : Hp) (C : Addr) (cl : List (Str × Addr)) (fp : List Addr), SimTs (X.blk s H scope (compEnvC scope cl C X.env) fp) Γ W0 ifs mt)
    (he : ∀ (s : Shared) (H : Hp) (C : Addr) (cl : List (Str × Addr)) (fp : List Addr), SimE (X.blk s H scope (compEnvC scope cl C X.env) fp) Γ W0 elt me)
    (hsl : ∀ j ∈ t.sl, j ∈ own.map (·.2) := by decide) (hs : ∀ x, foldedSetIterable iter X.env x = pure x := by intro _; rfl) : SimE X Γ W (.ListComp elt [⟨tg, iter, ifs, 0⟩] scope pos) (eComp mi t mt me (own.map (·.2))) :=
  pe_imp (pe_lc S.calm S.nd hi ok hg ht he hs) fun _ _ _ q => comp_ok hsl q
/-- name = [..] on one line -/
theorem sim_setComp [S : Sx X Γ W k] {i : Nat} {y : Str} {py : Pos} {elt tg iter : Expr} {ifs : List Expr} {scope : Scope} {own : List (Str × Nat)} {pos spos : Pos} {mi : M ITc} {t : Tgt} {mt : M Bool} {me : M CV} (hy : X.N[i]? = some y) (hyl : X.env.scope.names.lookup y = some .local)
    (hsw : swapsWith (.ListComp elt [⟨tg, iter, ifs, 0⟩] scope pos) (some (.Name y py)) spos.line X.env = pure true) (ok : BlkOk X.N X.env.scope scope own) (hi : SimI X Γ W tg iter mi)
    (hg : ∀ (s : Shared) (H : Hp) (C : Addr) (cl : List (Str × Addr)) (fp : List Addr), SimG (X.blk s H scope (compEnvC scope cl C X.env) fp) Γ tg t)
    (ht : ∀ (s : Shared) (H : Hp) (C : Addr) (cl : List (Str × Addr)) (fp : List Addr), SimTs (X.blk s H scope (compEnvC scope cl C X.env) fp) Γ W0 ifs mt)
    (he : ∀ (s : Shared) (H : Hp) (C : Addr) (cl : List (Str × Addr)) (fp : List Addr), SimE (X.blk s H scope (compEnvC scope cl C X.env) fp) Γ W0 elt me)
    (hsl : ∀ j ∈ t.sl, j ∈ own.map (·.2) := by decide) (hs : ∀ x, foldedSetIterable iter X.env x = pure x := by intro _; rfl) : SimS X Γ W (.Assign [.Name y py] (.ListComp elt [⟨tg, iter, ifs, 0⟩] scope pos) spos) (sAsg (gNm i) (eComp mi t mt me (own.map (·.2)))) :=
  ps_imp (ps_setLc S.calm S.nd hy hyl hsw hi ok hg ht he hs) fun D σ H q => by
    obtain ⟨F, env, q⟩ := rdS_first (re := reV Γ) q
    refine comp_ok hsl (rd_mono q fun x H1 ⟨ρ1, hp1, a, r1, e1, h1, p1⟩ => ?_)
    exact p1.nx r1 (e1.set h1 i)
end
end Bl

/-! Own layer, part J: list comprehensions of two clauses; stores by place; raise; what a def promises. -/
namespace Bl
open PySem PySem.Spec PyProof.Rows L2
section
variable {X : Cx} {Γ : Gx} {W : WX} {k : Nat} {F : List Nat} {ρ ρ' : Rh} {N N' : Nat} {H H' : Hp} {σ : L2.St} {env : En} {hp : Hc} {D : Ends}
theorem ItOk.mono {J : It} {next : Nat → Hc → Option (Option CV)} (h : ItOk Γ F ρ N H J next) (s : Step ρ N H ρ' N' H') : ItOk Γ F ρ' N' H' J next := fun i ρ2 hp2 H2 s2 r2 => h i ρ2 hp2 H2 (s.trans s2) r2
/-- a clause's loop that fills the list at D, from any state -/
theorem compN_run {ρ₀ : Rh} {N₀ : Nat} {H₀ : Hp} {D : Addr} {ρs : Rh} {hps : Hc} {Hs : Hp} {J : It} {next : Nat → Hc → Option (Option CV)} {tg : Tgt} {tests : M Bool} {elt : M CV} {env : En} {σw : L2.St} {vs : List Nat} {σb : L2.St} {n : Nat} {hpE : Hc} {End : Hp → Prop}
    (ms : Made Γ F ρ₀ N₀ H₀ D ρs hps Hs) (hJ : ItOk Γ F ρs hps.N Hs J next) (es : SRe Γ ρs hps.N Hs σw env) (hw : ∀ σ', Agr tg.sl σw σ' → L2.wipe σ' vs = σb)
    (hres : compN next tg tests elt env N₀ n 0 hps = some hpE) (hEnd : ∀ ρ' H', Made Γ F ρ₀ N₀ H₀ D ρ' hpE H' → Step ρs hps.N Hs ρ' hpE.N H' → End H') :
    ∃ Wp : Nat → Nat → Hp → Prop, (∃ m, Wp 0 m Hs) ∧ ∀ i m H, Wp i m H → (J.stop i H ∧ End H) ∨ (J.go i H ∧ ∃ Nx : Hp → Prop, (∀ H', Nx H' → ∃ m', m' < m ∧ Wp (i + 1) m' H') ∧
      ∀ x H', J.yld i H x H' → rdG Γ tg x σw H' fun σ2 H2 => L2.wipe σ2 vs = σb ∧ rd Γ W0 reB tests σ2 H2 fun b H3 =>
        if b = true then rd Γ W0 (reV Γ) elt σ2 H3 fun y H4 => ∃ acc, H4 D = some (.lst acc) ∧ acc.length < sizeLine ∧ Nx (upd H4 D (.lst (acc ++ [y]))) else Nx H3) := by
  refine ⟨fun i m H2 => ∃ ρ2 hp2, Made Γ F ρ₀ N₀ H₀ D ρ2 hp2 H2 ∧ Step ρs hps.N Hs ρ2 hp2.N H2 ∧ compN next tg tests elt env N₀ m i hp2 = some hpE, ⟨n, _, _, ms, Step.refl, hres⟩, ?_⟩
  rintro i m H2 ⟨ρ2, hp2, m2, t2, h2⟩
  cases m with
  | zero => simp [compN] at h2
  | succ m =>
    have hi := hJ i ρ2 hp2 H2 t2 m2.2.1
    unfold compN at h2
    revert hi h2
    generalize next i hp2 = w
    intro hi h2
    match w with
    | none => cases h2
    | some none =>
      obtain rfl : hp2 = hpE := Option.some.inj h2
      exact .inl ⟨hi, hEnd ρ2 H2 m2 t2⟩
    | some (some v) =>
      obtain ⟨go, hy⟩ := hi
      refine .inr ⟨go, fun H3 => ∃ ρ3 hp3, Made Γ F ρ₀ N₀ H₀ D ρ3 hp3 H3 ∧ Step ρs hps.N Hs ρ3 hp3.N H3 ∧ compN next tg tests elt env N₀ m (i + 1) hp3 = some hpE, fun H3 q => ⟨m, Nat.lt_succ_self m, q⟩, fun x H4 yl => ?_⟩
      obtain ⟨s4, r4, h4⟩ := hy x H4 yl
      have e4 := (es.mono t2).mono s4
      have m4 : Made Γ F ρ₀ N₀ H₀ D ρ2 hp2 H4 := ⟨m2.1.trans s4, r4, m2.2.2.1, m2.2.2.2⟩
      have h2' : (match tg.f v env with
        | none => none
        | some env1 => match tests env1 hp2 with
          | .ok b hp1 => if b then (match elt env1 hp1 with
              | .ok y hp2 => match compAdd N₀ y hp2 with
                | some hp3 => compN next tg tests elt env N₀ m (i + 1) hp3
                | none => none
              | _ => none) else compN next tg tests elt env N₀ m (i + 1) hp1
          | _ => none) = some hpE := h2
      clear h2
      split at h2'
      · cases h2'
      · rename_i env1 q1
        refine ⟨ρ2, F, hp2, _, v, env1, r4, e4, h4, q1, fun σ5 e5 a5 => ⟨hw σ5 a5, ρ2, F, hp2, env1, r4, e5, ?_⟩⟩
        split at h2'
        · rename_i b hp5 q2
          rw [q2]
          intro ρ6 H6 b' s6 r6 hb
          cases (show b = b' from hb)
          have m6 : Made Γ F ρ₀ N₀ H₀ D ρ6 hp5 H6 := ⟨m4.1.trans s6, r6, Nat.lt_of_lt_of_le m4.2.2.1 s6.le, (s6.agree _ m4.2.2.1).trans m4.2.2.2⟩
          have t6 := (t2.trans s4).trans s6
          cases b with
          | false =>
            rw [if_neg Bool.false_ne_true] at h2' ⊢
            exact ⟨ρ6, hp5, m6, t6, h2'⟩
          | true =>
            rw [if_pos rfl] at h2' ⊢
            refine ⟨ρ6, F, hp5, env1, r6, e5.mono s6, ?_⟩
            split at h2'
            · rename_i y hp7 q3
              rw [q3]
              intro ρ8 H8 x8 s8 r8 h8
              split at h2'
              · rename_i hp9 q4
                obtain ⟨acc, g1, g2, g3⟩ := compAdd_ok m6 s8 r8 h8 q4
                refine ⟨acc, g1, g2, ρ8, hp9, g3, ?_, h2'⟩
                have hD : ρ8 N₀ = D := g3.2.2.2
                have hn : N₀ < hp7.N := Nat.lt_of_lt_of_le m6.2.2.1 s8.le
                have q : Step ρ8 hp7.N H8 ρ8 hp7.N (upd H8 (ρ8 N₀) (.lst (acc ++ [x8]))) := step_write hn
                rw [hD] at q
                have hN : hp9.N = hp7.N := by
                  unfold compAdd at q4
                  split at q4
                  · split at q4
                    · cases q4; exact Hc.set_N _ _ _
                    · cases q4
                  · cases q4
                rw [hN]
                exact (t6.trans s8).trans q
              · cases h2'
            · cases h2'
        · cases h2'
def compN2 (next : Nat → Hc → Option (Option CV)) (tg : Tgt) (tests : M Bool) (mi1 : M ITc) (tg1 : Tgt) (tests1 : M Bool) (elt : M CV) (vs1 : List Nat) (env : En) (id : Nat) : Nat → Nat → Hc → Option Hc
  | 0, _, _ => none
  | n + 1, i, hp => match next i hp with
    | none => none
    | some none => some hp
    | some (some v) => match tg.f v env with
      | none => none
      | some env1 => match tests env1 hp with
        | .ok b hp1 => if b then (match mi1 env1 hp1 with
            | .ok it hp2 => match compN it.next tg1 tests1 elt (wipeE env1 vs1) id it.fuel 0 hp2 with
              | some hp3 => compN2 next tg tests mi1 tg1 tests1 elt vs1 env id n (i + 1) hp3
              | none => none
            | _ => none) else compN2 next tg tests mi1 tg1 tests1 elt vs1 env id n (i + 1) hp1
        | _ => none
def eComp2 (mi : M ITc) (tg : Tgt) (tests : M Bool) (mi1 : M ITc) (tg1 : Tgt) (tests1 : M Bool) (elt : M CV) (own vs1 : List Nat) : M CV := fun env hp => (mi env hp).bind fun it hp =>
  match compN2 it.next tg tests mi1 tg1 tests1 elt vs1 (wipeE env own) hp.N it.fuel 0 (hp.push (.lst [])) with
  | some hp' => .ok (.ref hp.N) hp'
  | none => .stuck
theorem comp2_ok {mi mi1 : M ITc} {tg tg1 : Tgt} {tests tests1 : M Bool} {elt : M CV} {own vs1 : List Nat} (hsl : ∀ j ∈ tg.sl, j ∈ own) (hsl1 : ∀ j ∈ tg1.sl, j ∈ vs1) {Q : VK} (h : rd Γ W (reV Γ) (eComp2 mi tg tests mi1 tg1 tests1 elt own vs1) σ H Q) :
    tLc2 (rdI Γ W mi) (rdG Γ tg) (rd Γ W0 reB tests) (rdI Γ W0 mi1) (rdG Γ tg1) (rd Γ W0 reB tests1) (rd Γ W0 (reV Γ) elt) own vs1 σ H Q := by
  obtain ⟨ρ, F, hp, env, r, e, p⟩ := h
  refine ⟨ρ, F, hp, env, r, e, ?_⟩
  unfold eComp2 at p
  revert p
  generalize mi env hp = z
  intro p
  cases z with
  | stuck => exact p
  | exc c fs hp' => exact p
  | ok it hp' =>
    intro ρ1 H1 J s1 r1 hJ D hD
    have e1 := e.mono s1
    have p1 : Post Γ F W σ ρ hp.N H (reV Γ) (match compN2 it.next tg tests mi1 tg1 tests1 elt vs1 (wipeE env own) hp'.N it.fuel 0 (hp'.push (.lst [])) with | some hp2 => .ok (.ref hp'.N) hp2 | none => .stuck) Q := p
    cases hres : compN2 it.next tg tests mi1 tg1 tests1 elt vs1 (wipeE env own) hp'.N it.fuel 0 (hp'.push (.lst [])) with
    | none => rw [hres] at p1; exact p1.elim
    | some hpE =>
      rw [hres] at p1
      have m0 : Made Γ F ρ1 hp'.N H1 D (ext ρ1 hp'.N D) (hp'.push (.lst [])) (upd H1 D (.lst [])) := by
        refine ⟨?_, srh_newL r1 hD (by unfold Reps; rfl), ?_, ext_at⟩
        · rw [Hc.push_N]; exact step_alloc hD
        · rw [Hc.push_N]; exact Nat.lt_succ_self _
      refine ⟨fun i m H2 => ∃ ρ2 hp2, Made Γ F ρ1 hp'.N H1 D ρ2 hp2 H2 ∧ compN2 it.next tg tests mi1 tg1 tests1 elt vs1 (wipeE env own) hp'.N m i hp2 = some hpE, ⟨it.fuel, _, _, m0, hres⟩, ?_⟩
      rintro i m H2 ⟨ρ2, hp2, m2, h2⟩
      cases m with
      | zero => simp [compN2] at h2
      | succ m =>
        have hi := hJ i ρ2 hp2 H2 m2.1 m2.2.1
        unfold compN2 at h2
        revert hi h2
        generalize it.next i hp2 = w
        intro hi h2
        match w with
        | none => cases h2
        | some none =>
          cases h2
          refine .inl ⟨hi, p1 ρ2 H2 (.ref D) (s1.trans m2.1) m2.2.1 ?_⟩
          show Rep Γ ρ2 hpE.N H2 hpE.N (.ref hp'.N) (.ref D)
          unfold Rep
          exact ⟨m2.2.2.1, by rw [m2.2.2.2]⟩
        | some (some v) =>
          obtain ⟨go, hy⟩ := hi
          refine .inr ⟨go, fun H3 => ∃ ρ3 hp3, Made Γ F ρ1 hp'.N H1 D ρ3 hp3 H3 ∧ compN2 it.next tg tests mi1 tg1 tests1 elt vs1 (wipeE env own) hp'.N m (i + 1) hp3 = some hpE, fun H3 q => ⟨m, Nat.lt_succ_self m, q⟩, fun x H4 yl => ?_⟩
          obtain ⟨s4, r4, h4⟩ := hy x H4 yl
          have e4 : SRe Γ ρ2 hp2.N H4 (L2.wipe σ own) (wipeE env own) := ((e1.mono m2.1).mono s4).wipe own
          have m4 : Made Γ F ρ1 hp'.N H1 D ρ2 hp2 H4 := ⟨m2.1.trans s4, r4, m2.2.2.1, m2.2.2.2⟩
          have h2' : (match tg.f v (wipeE env own) with
            | none => none
            | some env1 => match tests env1 hp2 with
              | .ok b hp1 => if b then (match mi1 env1 hp1 with
                  | .ok it hp2 => match compN it.next tg1 tests1 elt (wipeE env1 vs1) hp'.N it.fuel 0 hp2 with
                    | some hp3 => compN2 _ tg tests mi1 tg1 tests1 elt vs1 (wipeE env own) hp'.N m (i + 1) hp3
                    | none => none
                  | _ => none) else compN2 _ tg tests mi1 tg1 tests1 elt vs1 (wipeE env own) hp'.N m (i + 1) hp1
              | _ => none) = some hpE := h2
          clear h2
          split at h2'
          · cases h2'
          · rename_i env1 q1
            refine ⟨ρ2, F, hp2, _, v, env1, r4, e4, h4, q1, fun σ5 e5 a5 => ⟨wipe_agr a5 hsl, ρ2, F, hp2, env1, r4, e5, ?_⟩⟩
            split at h2'
            · rename_i b hp5 q2
              rw [q2]
              intro ρ6 H6 b' s6 r6 hb
              cases (show b = b' from hb)
              have m6 : Made Γ F ρ1 hp'.N H1 D ρ6 hp5 H6 := ⟨m4.1.trans s6, r6, Nat.lt_of_lt_of_le m4.2.2.1 s6.le, (s6.agree _ m4.2.2.1).trans m4.2.2.2⟩
              cases b with
              | false =>
                rw [if_neg Bool.false_ne_true] at h2' ⊢
                exact ⟨ρ6, hp5, m6, h2'⟩
              | true =>
                rw [if_pos rfl] at h2' ⊢
                have e6 := e5.mono s6
                refine ⟨ρ6, F, hp5, env1, r6, e6, ?_⟩
                split at h2'
                · rename_i it1 hp7 q3
                  rw [q3]
                  intro ρ8 H8 J1 s8 r8 hJ1
                  split at h2'
                  · rename_i hp9 q4
                    have m8 : Made Γ F ρ1 hp'.N H1 D ρ8 hp7 H8 := ⟨m6.1.trans s8, r8, Nat.lt_of_lt_of_le m6.2.2.1 s8.le, (s8.agree _ m6.2.2.1).trans m6.2.2.2⟩
                    exact compN_run m8 hJ1 ((e6.mono s8).wipe vs1) (fun σ' a => wipe_agr a hsl1) q4 fun ρ' H' m9 _ => ⟨ρ', hp9, m9, h2'⟩
                  · cases h2'
                · cases h2'
            · cases h2'
theorem sim_comp2 [S : Sx X Γ W k] {elt tg iter tg1 iter1 : Expr} {ifs ifs1 : List Expr} {scope : Scope} {own : List (Str × Nat)} {vs1 : List Nat} {pos : Pos} {mi mi1 : M ITc} {t t1 : Tgt} {mt mt1 : M Bool} {me : M CV} (ok : BlkOk X.N X.env.scope scope own) (hi : SimI X Γ W tg iter mi)
    (hg : ∀ (s : Shared) (H : Hp) (C : Addr) (cl : List (Str × Addr)) (fp : List Addr), SimG (X.blk s H scope (compEnvC scope cl C X.env) fp) Γ tg t)
    (ht : ∀ (s : Shared) (H : Hp) (C : Addr) (cl : List (Str × Addr)) (fp : List Addr), SimTs (X.blk s H scope (compEnvC scope cl C X.env) fp) Γ W0 ifs mt)
    (hi1 : ∀ (s : Shared) (H : Hp) (C : Addr) (cl : List (Str × Addr)) (fp : List Addr), SimI (X.blk s H scope (compEnvC scope cl C X.env) fp) Γ W0 tg1 iter1 mi1)
    (hg1 : ∀ (s : Shared) (H : Hp) (C : Addr) (cl : List (Str × Addr)) (fp : List Addr), SimG (X.blk s H scope (compEnvC scope cl C X.env) fp) Γ tg1 t1)
    (ht1 : ∀ (s : Shared) (H : Hp) (C : Addr) (cl : List (Str × Addr)) (fp : List Addr), SimTs (X.blk s H scope (compEnvC scope cl C X.env) fp) Γ W0 ifs1 mt1)
    (he : ∀ (s : Shared) (H : Hp) (C : Addr) (cl : List (Str × Addr)) (fp : List Addr), SimE (X.blk s H scope (compEnvC scope cl C X.env) fp) Γ W0 elt me)
    (hsl : ∀ j ∈ t.sl, j ∈ own.map (·.2) := by decide) (hsl1 : ∀ j ∈ t1.sl, j ∈ vs1 := by decide) (hv : ∀ i ∈ vs1, i ∈ own.map (·.2) := by decide)
    (hs : ∀ x, foldedSetIterable iter X.env x = pure x := by intro _; rfl) (hs1 : ∀ env x, foldedSetIterable iter1 env x = pure x := by intro _ _; rfl) :
    SimE X Γ W (.ListComp elt [⟨tg, iter, ifs, 0⟩, ⟨tg1, iter1, ifs1, 0⟩] scope pos) (eComp2 mi t mt mi1 t1 mt1 me (own.map (·.2)) vs1) :=
  pe_imp (pe_lc2 S.calm S.nd hi ok hv hg ht hi1 hg1 ht1 he hs hs1) fun _ _ _ q => comp2_ok hsl hsl1 q
theorem sim_setComp2 [S : Sx X Γ W k] {i : Nat} {y : Str} {py : Pos} {elt tg iter tg1 iter1 : Expr} {ifs ifs1 : List Expr} {scope : Scope} {own : List (Str × Nat)} {vs1 : List Nat} {pos spos : Pos} {mi mi1 : M ITc} {t t1 : Tgt} {mt mt1 : M Bool} {me : M CV} (hy : X.N[i]? = some y) (hyl : X.env.scope.names.lookup y = some .local)
    (hsw : swapsWith (.ListComp elt [⟨tg, iter, ifs, 0⟩, ⟨tg1, iter1, ifs1, 0⟩] scope pos) (some (.Name y py)) spos.line X.env = pure true) (ok : BlkOk X.N X.env.scope scope own) (hi : SimI X Γ W tg iter mi)
    (hg : ∀ (s : Shared) (H : Hp) (C : Addr) (cl : List (Str × Addr)) (fp : List Addr), SimG (X.blk s H scope (compEnvC scope cl C X.env) fp) Γ tg t)
    (ht : ∀ (s : Shared) (H : Hp) (C : Addr) (cl : List (Str × Addr)) (fp : List Addr), SimTs (X.blk s H scope (compEnvC scope cl C X.env) fp) Γ W0 ifs mt)
    (hi1 : ∀ (s : Shared) (H : Hp) (C : Addr) (cl : List (Str × Addr)) (fp : List Addr), SimI (X.blk s H scope (compEnvC scope cl C X.env) fp) Γ W0 tg1 iter1 mi1)
    (hg1 : ∀ (s : Shared) (H : Hp) (C : Addr) (cl : List (Str × Addr)) (fp : List Addr), SimG (X.blk s H scope (compEnvC scope cl C X.env) fp) Γ tg1 t1)
    (ht1 : ∀ (s : Shared) (H : Hp) (C : Addr) (cl : List (Str × Addr)) (fp : List Addr), SimTs (X.blk s H scope (compEnvC scope cl C X.env) fp) Γ W0 ifs1 mt1)
    (he : ∀ (s : Shared) (H : Hp) (C : Addr) (cl : List (Str × Addr)) (fp : List Addr), SimE (X.blk s H scope (compEnvC scope cl C X.env) fp) Γ W0 elt me)
    (hsl : ∀ j ∈ t.sl, j ∈ own.map (·.2) := by decide) (hsl1 : ∀ j ∈ t1.sl, j ∈ vs1 := by decide) (hv : ∀ i ∈ vs1, i ∈ own.map (·.2) := by decide)
    (hs : ∀ x, foldedSetIterable iter X.env x = pure x := by intro _; rfl) (hs1 : ∀ env x, foldedSetIterable iter1 env x = pure x := by intro _ _; rfl) :
    SimS X Γ W (.Assign [.Name y py] (.ListComp elt [⟨tg, iter, ifs, 0⟩, ⟨tg1, iter1, ifs1, 0⟩] scope pos) spos) (sAsg (gNm i) (eComp2 mi t mt mi1 t1 mt1 me (own.map (·.2)) vs1)) :=
  ps_imp (ps_setLc2 S.calm S.nd hy hyl hsw hi ok hv hg ht hi1 hg1 ht1 he hs hs1) fun D σ H q => by
    obtain ⟨F, env, q⟩ := rdS_first (re := reV Γ) q
    refine comp2_ok hsl hsl1 (rd_mono q fun x H1 ⟨ρ1, hp1, a, r1, e1, h1, p1⟩ => ?_)
    exact p1.nx r1 (e1.set h1 i)
end
end Bl

/-! Own layer, part K: defs and calls; scopes; a store into a list; slices. -/
namespace Bl
open PySem PySem.Spec PyProof.Rows L2

/-! ### defs -/
/-- a def with n slots -/
def fnM (n : Nat) (body : MS) : Fn := fun args hp => match body (args.map some ++ List.replicate (n - args.length) none) hp with
  | .ok (.nx _) hp' => .ok .non hp'
  | .ok (.rt v) hp' => .ok v hp'
  | .ok (.ex c fs _) hp' => .exc c fs hp'
  | _ => .stuck
abbrev WK (E : XK) : WX := fun c d _ H => E c d H
/-- a def's promise by its clean function -/
def spF (Γ : Gx) (n : Nat) (f : Fn) : Sp := fun vs H Q E => vs.length = n ∧ ∃ ρ F hp args, SRh Γ ρ F hp H ∧ Reps Γ ρ hp.N H hp.N args vs ∧ Post Γ F (WK E) [] ρ hp.N H (reV Γ) (f args hp) Q
theorem post_wk {Γ : Gx} {α β : Type} {F : List Nat} {E : XK} {W : WX} {σ σ' : L2.St} {ρ : Rh} {N : Nat} {H : Hp} {re : Re α β} {r : R α} {Q : β → Hp → Prop} (hW : ∀ c d H', W c d σ H' → E c d H') (h : Post Γ F W σ ρ N H re r Q) : Post Γ F (WK E) σ' ρ N H re r Q := by
  cases r with
  | ok v hp' => exact h
  | exc c fs hp' => exact fun ρ' H' d s r q => hW _ _ _ (h ρ' H' d s r q)
  | stuck => exact h
section
variable {X : Cx} {Γ : Gx} {W : WX} {k : Nat} {F : List Nat} {ρ : Rh} {N : Nat} {H : Hp} {σ : L2.St} {env : En} {hp : Hc} {D : Ends} {pos : Pos}
theorem start_rep {NN : List Str} {ρ : Rh} {hp : Hc} {H : Hp} {args : List CV} {vs : List V} (h : Reps Γ ρ hp.N H hp.N args vs) : SRe Γ ρ hp.N H (L2.start NN vs) (args.map some ++ List.replicate (NN.length - args.length) none) := by
  have hl := h.len
  refine ⟨?_, fun i v q => ?_⟩
  · unfold L2.start
    simp only [List.length_append, List.length_map, List.length_replicate, hl]
  · unfold L2.start
    by_cases hi : i < args.length
    · rw [List.getElem?_append_left (by simpa using hi)] at q
      rw [List.getElem?_append_left (by simpa [← hl] using hi)]
      rw [List.getElem?_map] at q ⊢
      cases e : args[i]? with
      | none => rw [e] at q; cases q
      | some z =>
        rw [e] at q
        have ez : z = v := Option.some.inj (Option.some.inj q)
        subst ez
        obtain ⟨w, e1, r1⟩ := h.get e
        exact ⟨w, by rw [e1]; rfl, r1⟩
    · rw [List.getElem?_append_right (by simpa using Nat.le_of_not_lt hi)] at q
      rw [List.getElem?_replicate] at q
      split at q <;> cases q
/-- THE RULE for a def -/
theorem fn_ok {P : Program} {w : World} {K : PySem.W.Frag} {mg : Str → Option Value} {base : Heap} {x qual : Str} {st : Stmt} {f : Addr} {fd : FuncData} {NN ps : List Str} {k n : Nat} {body : MS}
    (F : Fun K x qual st f fd) (S : FnScope NN ps (defScope st)) (hK : Γ.K = K) (hn : ps.length = n)
    (hb : ∀ (cdv : Value) (A : Around) (outer : List Env) (s : Shared) (H : Hp) (E : XK), Sx (cxOf (L2.CX P w) P w K mg base NN qual (defScope st) f cdv A outer s H E) Γ (WK E) k →
      SimSs (cxOf (L2.CX P w) P w K mg base NN qual (defScope st) f cdv A outer s H E) Γ (WK E) (defBody st) body) :
    FnOk P w K mg base (L2.CX P w) (k + 1) f fd ps (spF Γ n (fnM NN.length body)) := by
  refine F.okX S (fun vs H Q E h => h.1.trans hn.symm) (fun cdv A outer s H vs Q E hr h => ⟨_, hb cdv A outer s H E ⟨hK.symm, rfl, S.nd, hr, takes_of rfl rfl rfl rfl⟩, ?_⟩)
  obtain ⟨hl, ρ, F', hp, args, r, e, p⟩ := h
  refine ⟨ρ, F', hp, _, r, start_rep e, ?_⟩
  unfold fnM at p
  revert p
  generalize body (args.map some ++ List.replicate (NN.length - args.length) none) hp = z
  intro p
  cases z with
  | stuck => exact p
  | ok fl hp' =>
    cases fl with
    | nx env => exact fun ρ' H' σ' s r' _ => p ρ' H' _ s r' repN
    | rt v => exact p
    | bk env => exact p.elim
    | ct env => exact p.elim
    | ex c fs env => exact fun ρ' H' σ' d s r' q _ => p ρ' H' d s r' q
/-- a global name that holds a def -/
def Kn (P : Program) (w : World) (K : PySem.W.Frag) (mg : Str → Option Value) (base : Heap) (Γ : Gx) (k : Nat) (x : Str) (n : Nat) (f : Fn) : Prop :=
  ∃ g fd ps, FnOk P w K mg base (L2.CX P w) k g fd ps (spF Γ n f) ∧ mg x = some (.ref g) ∧ PySem.W.keepIn K (.ref g) = true ∧ Binds K fd ps []
section
variable {P : Program} {w : World} {K : PySem.W.Frag} {mg : Str → Option Value} {base : Heap} {x : Str} {n : Nat} {f g : Fn}
theorem Kn.mono {k' : Nat} (h : Kn P w K mg base Γ k x n f) (le : k ≤ k') : Kn P w K mg base Γ k' x n f :=
  let ⟨g, fd, ps, h1, h2, h3, h4⟩ := h
  ⟨g, fd, ps, h1.mono le, h2, h3, h4⟩
/-- a clean function that says less -/
theorem Kn.imp (h : Kn P w K mg base Γ k x n f) (hfg : ∀ args hp, g args hp = .stuck ∨ f args hp = g args hp) : Kn P w K mg base Γ k x n g := by
  obtain ⟨a, fd, ps, h1, h2, h3, h4⟩ := h
  refine ⟨a, fd, ps, h1.imp fun vs H Q E q => ?_, h2, h3, h4⟩
  obtain ⟨hl, ρ, F, hp, args, r, e, p⟩ := q
  refine ⟨hl, ρ, F, hp, args, r, e, ?_⟩
  rcases hfg args hp with z | z
  · rw [z] at p; exact p.elim
  · rw [z]; exact p
theorem Kn.of (h : Kn P w K mg base Γ k x n f) (hfg : ∀ args hp, f args hp = g args hp) : Kn P w K mg base Γ k x n g := h.imp fun a p => .inr (hfg a p)
theorem kn_stuck {fa : Addr} {fd : FuncData} {ps : List Str} (hm : mg x = some (.ref fa)) (hk : PySem.W.keepIn K (.ref fa) = true) (hb : Binds K fd ps []) : Kn P w K mg base Γ 0 x n (fun _ _ => .stuck) :=
  ⟨fa, fd, ps, ⟨fun _ _ _ _ h => by obtain ⟨_, _, _, _, _, _, _, p⟩ := h; exact p.elim, fun _ _ _ _ _ _ _ _ _ _ _ _ _ h => by obtain ⟨_, _, _, _, _, _, _, p⟩ := h; exact p.elim⟩, hm, hk, hb⟩
/-- the same, the new objects frozen behind it -/
def scop (f : Fn) : Fn := fun args hp => match f args ⟨hp.N, hp.os⟩ with
  | .ok v hp' => match frzV hp'.os hp.N v with
    | some v' => .ok v' (hp'.cut hp.fl hp.N)
    | none => .stuck
  | .exc c fs hp' => .exc c fs (hp'.cut hp.fl hp.N)
  | .stuck => .stuck
end
mutual
theorem rep_lim {ρ : Rh} {N : Nat} {H : Hp} {m : Nat} : ∀ (x : CV) {v : V}, Rep Γ ρ N H m x v → limV m x = true
  | .non, v, h => rfl
  | .bl b, v, h => rfl
  | .int i, v, h => rfl
  | .str s, v, h => rfl
  | .ref n, v, h => by unfold Rep at h; unfold limV; exact decide_eq_true h.1
  | .tup xs, v, h => by
    unfold Rep at h; unfold limV
    obtain ⟨a, vs, _, _, q⟩ := h
    exact reps_lim xs q
  | .wtp xs, v, h => by
    unfold Rep at h; unfold limV
    obtain ⟨a, vs, _, _, q⟩ := h
    exact reps_lim xs q
  | .wdc i, v, h => rfl
  | .lst xs, v, h => rfl
  | .dct _ _, v, h => rfl
  | .ins _ _, v, h => rfl
theorem reps_lim {ρ : Rh} {N : Nat} {H : Hp} {m : Nat} : ∀ (xs : List CV) {vs : List V}, Reps Γ ρ N H m xs vs → limL m xs = true
  | [], vs, h => rfl
  | x :: xs, vs, h => by
    unfold Reps at h; unfold limL
    obtain ⟨v, r, _, h1, h2⟩ := h
    rw [rep_lim x h1, reps_lim xs h2]; rfl
end
theorem repK_lim {ρ : Rh} {N : Nat} {H : Hp} {m : Nat} : ∀ (xs : List (CV × CV)) {vs : List (Key × V)}, RepK Γ ρ N H m xs vs → limK m xs = true
  | [], vs, h => rfl
  | (a, x) :: xs, vs, h => by
    unfold RepK at h; unfold limK
    obtain ⟨_, v, r, _, _, h1, h2⟩ := h
    show (limV m x && limK m xs) = true
    rw [rep_lim x h1, repK_lim xs h2]; rfl
theorem repT_lim {ρ : Rh} {N : Nat} {H : Hp} {m : Nat} : ∀ (xs : List (CV × CV)) {vs : List (List Key × V)}, RepT Γ ρ N H m xs vs → limK m xs = true
  | [], vs, h => rfl
  | (a, x) :: xs, vs, h => by
    unfold RepT at h; unfold limK
    obtain ⟨_, v, r, _, _, h1, h2⟩ := h
    show (limV m x && limK m xs) = true
    rw [rep_lim x h1, repT_lim xs h2]; rfl
theorem repF_lim {ρ : Rh} {N : Nat} {H : Hp} {m : Nat} : ∀ (xs : List (Nat × CV)) {vs : List (Str × V)}, RepF Γ ρ N H m xs vs → limF m xs = true
  | [], vs, h => rfl
  | (a, x) :: xs, vs, h => by
    unfold RepF at h; unfold limF
    obtain ⟨v, r, _, h1, h2⟩ := h
    show (limV m x && limF m xs) = true
    rw [rep_lim x h1, repF_lim xs h2]; rfl
theorem repO_lim {ρ : Rh} {N : Nat} {H : Hp} {m : Nat} {a : Addr} : ∀ {o : CO}, RepO Γ ρ N H m a o → limO m o = true
  | .lst xs, h => let ⟨_, _, q⟩ := h; reps_lim xs q
  | .dic false kvs, h => let ⟨_, _, q⟩ := h; repK_lim kvs q
  | .dic true kvs, h => let ⟨_, _, q⟩ := h; repT_lim kvs q
  | .ins c fs, h => let ⟨_, _, _, q⟩ := h; repF_lim fs q
/-- into a scope -/
theorem SRh.into (r : SRh Γ ρ F hp H) : SRh Γ ρ (hp.N :: F) ⟨hp.N, hp.os⟩ H := by
  refine ⟨r.inj, r.hidt, r.obj, Nat.le_refl _, fun f hf => ?_, r.tab⟩
  rcases List.mem_cons.mp hf with rfl | hf
  · exact ⟨Nat.le_refl _, fun i o _ e => repO_lim (r.obj i o e)⟩
  · exact ⟨Nat.le_trans (r.fls f hf).1 r.fl, (r.fls f hf).2⟩
theorem Step.cutN {ρ ρ' : Rh} {N N' : Nat} {H H' : Hp} (s : Step ρ N H ρ' N' H') (inj : InjR ρ' N') : Step ρ N H ρ' N H' :=
  ⟨Nat.le_refl _, s.base, s.agr, fun _ => s.hid inj, fun a u q h => (s.keep a u q h).trunc s.le, fun a u q h => (s.keepI a u q h).trunc s.le⟩
theorem excR_trunc {ρ : Rh} {N N' : Nat} {H : Hp} {fs : List (Nat × CV)} {d : Option Addr} (le : N ≤ N') (h : ExcR Γ ρ N' H fs d) : ExcR Γ ρ N H fs d := by
  rcases h with h | ⟨a, ds, e1, e2, q⟩
  · exact .inl h
  · exact .inr ⟨a, ds, e1, e2, RepF.trunc le _ (.inl rfl) q⟩
theorem scop_post {f : Fn} {args : List CV} {Q : VK} (r : SRh Γ ρ F hp H) (p : Post Γ F W σ ρ hp.N H (reV Γ) (scop f args hp) Q) : Post Γ (hp.N :: F) W σ ρ hp.N H (reV Γ) (f args ⟨hp.N, hp.os⟩) Q := by
  unfold scop at p
  revert p
  generalize f args ⟨hp.N, hp.os⟩ = z
  intro p
  have hfl : hp.fl ≤ hp.N := r.fl
  have hF : ∀ f ∈ F, f ≤ hp.fl := fun f hf => (r.fls f hf).1
  cases z with
  | stuck => exact p
  | exc c fs hp' =>
    intro ρ' H' d s r' q
    refine p ρ' H' d ?_ (r'.cut s.le hfl hF) ?_
    · rw [Hc.cut_N s.le]; exact s.cutN r'.inj
    · rw [Hc.cut_N s.le]; exact excR_trunc s.le q
  | ok v hp' =>
    intro ρ' H' x s r' q
    have p' : Post Γ F W σ ρ hp.N H (reV Γ) (match frzV hp'.os hp.N v with | some v' => R.ok v' (hp'.cut hp.fl hp.N) | none => .stuck) Q := p
    split at p'
    · rename_i v' e
      refine p' ρ' H' x ?_ (r'.cut s.le hfl hF) ?_
      · rw [Hc.cut_N s.le]; exact s.cutN r'.inj
      · show Rep Γ ρ' (hp'.cut hp.fl hp.N).N H' (hp'.cut hp.fl hp.N).N v' x
        rw [Hc.cut_N s.le]; exact frzV_ok r' s.le e q
    · exact p'.elim
theorem Kn.scop {P : Program} {w : World} {K : PySem.W.Frag} {mg : Str → Option Value} {base : Heap} {x : Str} {n : Nat} {f : Fn} (h : Kn P w K mg base Γ k x n f) : Kn P w K mg base Γ k x n (Bl.scop f) := by
  obtain ⟨a, fd, ps, h1, h2, h3, h4⟩ := h
  refine ⟨a, fd, ps, h1.imp fun vs H Q E q => ?_, h2, h3, h4⟩
  obtain ⟨hl, ρ, F, hp, args, r, e, p⟩ := q
  exact ⟨hl, ρ, hp.N :: F, ⟨hp.N, hp.os⟩, args, r.into, e, scop_post r p⟩

/-! ### calls -/
theorem R.bind_ok {α β : Type} {r : R α} {f : α → Hc → R β} {b : β} {hp' : Hc} (h : r.bind f = .ok b hp') : ∃ a hp1, r = .ok a hp1 ∧ f a hp1 = .ok b hp' := by
  cases r with
  | ok a hp1 => exact ⟨a, hp1, rfl, h⟩
  | exc c fs hp1 => cases h
  | stuck => cases h
theorem evA_len : ∀ {ms : List (M CV)} {env : En} {hp hp' : Hc} {vs : List CV}, evA ms env hp = .ok vs hp' → vs.length = ms.length
  | [], _, _, _, _, h => by cases h; rfl
  | m :: ms, env, hp, hp', vs, h => by
    obtain ⟨v, h1, _, q⟩ := R.bind_ok h
    obtain ⟨ws, h2, e, q2⟩ := R.bind_ok q
    cases q2
    rw [List.length_cons, List.length_cons, evA_len e]
theorem call_ok {n : Nat} {f : Fn} {ms : List (M CV)} {Q : VK} (hn : ms.length = n) (q : rd Γ W (reV Γ) (eBi f ms) σ H Q) : tCallS (spF Γ n f) (WE W) (rd Γ W (reA Γ) (evA ms)) σ H Q := by
  obtain ⟨ρ, F, hp, env, r0, e0, p⟩ := q
  refine ⟨ρ, F, hp, env, r0, e0, ?_⟩
  unfold eBi at p
  cases z : evA ms env hp with
  | stuck => rw [z] at p; exact p
  | exc c fs hp' => rw [z] at p; exact p
  | ok vs hp' =>
    have hl := evA_len z
    rw [z] at p
    intro ρ' H' xs s r e
    exact ⟨by rw [← Reps.len e, hl, hn], ρ', F, hp', vs, r, e, post_wk (fun _ _ _ h => h) (Post.step s (show Post Γ F W σ ρ hp.N H (reV Γ) (f vs hp') Q from p))⟩
theorem sim_call [S : Sx X Γ W k] {kf n : Nat} {x : Str} {p : Pos} {e : Expr} {es : List Expr} {f : Fn} {ms : List (M CV)} (h : Kn X.prog X.w X.K X.mg X.base Γ kf x n f) (le : kf ≤ k) (ha : SimA X Γ W (e :: es) (evA ms)) (hn : ms.length = n := by rfl) (hg : Gl X x := by rfl)
    (hdb : (x == ("__debug__" : Str)) = false := by decide) (he : starEach (e :: es) X.env = (false, eval e X.env) :: starEach es X.env := by rfl) (hpl : (backTo pos (starEach es X.env)).any (·.1) = false := by rfl) :
    SimE X Γ W (.Call (.Name x p) (e :: es) [] pos) (eBi f ms) := by
  obtain ⟨g, fd, ps, h1, h2, h3, h4⟩ := h
  exact pe_imp (pe_callS h1 (S.room.mono le) hg h2 h3 h4 (fun σ => passAt S.tk σ) ha hdb he hpl) fun _ _ _ q => call_ok hn q
/-- f() -/
def eCall0 (f : Fn) : M CV := fun _ hp => f [] hp
theorem sim_call0 [S : Sx X Γ W k] {kf : Nat} {x : Str} {p : Pos} {f : Fn} (h : Kn X.prog X.w X.K X.mg X.base Γ kf x 0 f) (le : kf ≤ k) (hg : Gl X x := by rfl)
    (hdb : (x == ("__debug__" : Str)) = false := by decide) : SimE X Γ W (.Call (.Name x p) [] [] pos) (eCall0 f) := by
  obtain ⟨g, fd, ps, h1, h2, h3, h4⟩ := h
  have z : PE X (.Call (.Name x p) [] [] pos) (tCallS (spF Γ 0 f) (WE W) tNil) := ⟨fun pins s σ H Q I q =>
    wpAny_Call_Name_kw (ld_glob I hg h2 (PySem.W.callWith_K0 I.kIn h3 (run_fnS (us := []) h1 (S.room.mono le) h4 (passAt S.tk σ) I .nil q)) hdb)⟩
  refine pe_imp z fun σ H Q q => ?_
  obtain ⟨ρ, F, hp, env, r0, e0, p⟩ := q
  exact ⟨rfl, ρ, F, hp, [], r0, by unfold Reps; rfl, post_wk (fun _ _ _ h => h) p⟩

/-! ### a store into a list -/
def sSetL (v a i : M CV) : MS := fun env hp => RS.of (v env hp) env fun x hp => RS.of (a env hp) env fun o hp => RS.of (i env hp) env fun j hp => match o, j with
  | .ref n, .int z => match hp.os[n]? with
    | some (.lst xs) => match ixN xs.length z with
      | some q => if (decide (n < hp.fl) && !limL (n + 1) (xs.set q x)) = true then .stuck else .ok (.nx env) (hp.set n (.lst (xs.set q x)))
      | none => .stuck
    | _ => .stuck
  | _, _ => .stuck
theorem Reps.set {ρ : Rh} {N : Nat} {H : Hp} {m : Nat} {x : CV} {v : V} (hx : Rep Γ ρ N H m x v) : ∀ {xs : List CV} {vs : List V} {i : Nat}, Reps Γ ρ N H m xs vs → Reps Γ ρ N H m (xs.set i x) (vs.set i v)
  | [], vs, i, h => by unfold Reps at h; subst h; exact (by unfold Reps; rfl)
  | y :: xs, vs, 0, h => by
    unfold Reps at h
    obtain ⟨w, r, rfl, _, h2⟩ := h
    show Reps Γ ρ N H m (x :: xs) (v :: r)
    unfold Reps; exact ⟨v, r, rfl, hx, h2⟩
  | y :: xs, vs, i + 1, h => by
    unfold Reps at h
    obtain ⟨w, r, rfl, h1, h2⟩ := h
    show Reps Γ ρ N H m (y :: xs.set i x) (w :: r.set i v)
    unfold Reps; exact ⟨w, _, rfl, h1, Reps.set hx h2⟩
theorem sim_setL [S : Sx X Γ W k] {a i e : Expr} {v ma mi : M CV} {p1 pos : Pos} (hv : SimE X Γ W e v) (ha : SimE X Γ W a ma) (hi : SimE X Γ W i mi)
    (hs : swapsWithSole [.Subscript a i p1] e pos.line X.env = pure false := by rfl) (hw : swappedStores [.Subscript a i p1] e X.env = pure none := by rfl)
    (h1 : (assignEach [.Subscript a i p1] X.env).map (·.2) = [assign (.Subscript a i p1) X.env] := by rfl)
    (h2 : ∀ v, assign (.Subscript a i p1) X.env v = (do
      let ov ← holding [v] (eval a X.env)
      let iv ← holding [v, ov] (eval i X.env)
      standAt p1
      holding [v, ov, iv] (setItem ov iv v)
      release [v, ov, iv] []) := by intro _; rfl) : SimS X Γ W (.Assign [.Subscript a i p1] e pos) (sSetL v ma mi) :=
  ps_imp (ps_asg hv (pg_sub ha hi set_list h2) hs hw h1) fun D σ H q => by
    obtain ⟨F, env, q⟩ := rdS_first (re := reV Γ) q
    refine rd_mono q fun x H1 ⟨ρ1, hp1, cx, r1, e1, g1, p1⟩ => ?_
    refine rd_mono (rdS_next (re := reV Γ) r1 e1 p1) fun o H2 ⟨ρ2, hp2, co, s2, r2, e2, g2, p2⟩ => ?_
    refine rd_mono (rdS_next (re := reV Γ) r2 e2 p2) fun j H3 ⟨ρ3, hp3, cj, s3, r3, e3, g3, p3⟩ => ?_
    have gx : Rep Γ ρ3 hp3.N H3 hp3.N cx x := g1.mono (s2.trans s3) (Nat.le_refl _) (s2.trans s3).le
    have go : Rep Γ ρ3 hp3.N H3 hp3.N co o := g2.mono s3 (Nat.le_refl _) s3.le
    have gj : Rep Γ ρ3 hp3.N H3 hp3.N cj j := g3
    split at p3
    · rename_i n z _
      unfold Rep at go gj
      obtain ⟨hn, rfl⟩ := go
      subst gj
      split at p3
      · rename_i xs he
        split at p3
        · rename_i t ht
          split at p3
          · exact p3.elim
          · rename_i hc
            obtain ⟨vs, a1, a2⟩ := r3.obj _ _ he
            refine ⟨_, vs, z, t, rfl, rfl, a1, by rw [← a2.len]; exact ht, ?_⟩
            have st : Step ρ3 hp3.N H3 ρ3 hp3.N (upd H3 (ρ3 n) (.lst (vs.set t x))) := step_write hn
            have nw : Reps Γ ρ3 hp3.N (upd H3 (ρ3 n) (.lst (vs.set t x))) hp3.N (xs.set t cx) (vs.set t x) := (Reps.set gx a2).mono st (Nat.le_refl _) (Nat.le_refl _)
            have w := r3.write (c := .lst (xs.set t cx)) (o := .lst (vs.set t x)) hn (fun hl => by
              by_cases hz : limL (n + 1) (xs.set t cx) = true
              · exact hz
              · exact absurd (by rw [decide_eq_true hl, Bool.not_eq_true] at *; simp [hz]) hc) (fun f hf hq => limO_mono hf _ hq) ⟨_, upd_same, nw⟩
            exact p3 ρ3 _ σ (by rw [Hc.set_N]; exact st) w (by rw [Hc.set_N]; exact e3.mono st)
        · exact p3.elim
      · exact p3.elim
    · exact p3.elim
/-! ### slices -/
def cutC {α : Type} (xs : List α) (lo hi : Option Int) : List α := (xs.drop (HT.sIx xs.length 0 lo)).take (HT.sIx xs.length xs.length hi - HT.sIx xs.length 0 lo)
def wholeC (n : Nat) (lo hi : Option Int) : Bool := decide (HT.sIx n 0 lo = 0) && decide (HT.sIx n n hi = n)
def vSl (a : CV) (lo hi : Option Int) (hp : Hc) : R CV := match a with
  | .str s => if okLen s.length = true then .ok (.str (cutC s lo hi)) hp else .stuck
  | .tup xs => if wholeC xs.length lo hi = true then .ok (.tup xs) hp else .ok (.tup (cutC xs lo hi)) hp
  | .wtp xs => if wholeC xs.length lo hi = true then .ok (.wtp xs) hp else .ok (.tup (cutC xs lo hi)) hp
  | a => match seqItems hp a with
    | some xs => newL (cutC xs lo hi) hp
    | none => .stuck
def ePart : Option (M CV) → M (Option Int)
  | none => fun _ hp => .ok none hp
  | some m => fun env hp => (m env hp).bind fun v hp => match v with
    | .int i => .ok (some i) hp
    | _ => .stuck
def eSl (a : M CV) (lo hi : Option (M CV)) : M CV := fun env hp => (a env hp).bind fun x hp => (ePart lo env hp).bind fun l hp => (ePart hi env hp).bind fun u hp => vSl x l u hp
abbrev reO : Re (Option Int) (Option Int) := fun _ _ _ b c => b = c
abbrev SimO (X : Cx) (Γ : Gx) (W : WX) (e : Option Expr) (m : Option (M CV)) : Prop := PO X e (rd Γ W reO (ePart m))
theorem po_imp {e : Option Expr} {t t' : TO} (h : PO X e t) (i : ∀ σ H Q, t' σ H Q → t σ H Q) : PO X e t' := ⟨fun pins s σ H Q I q => h.run pins s σ H Q I (i σ H Q q)⟩
theorem sim_ono : SimO X Γ W none none := po_imp po_none fun σ H Q h => by
  obtain ⟨ρ, F, hp, env, r, e, p⟩ := h
  exact p.ok r rfl
theorem sim_osome {e : Expr} {m : M CV} (h : SimE X Γ W e m) : SimO X Γ W (some e) (some m) := po_imp (po_some h) fun σ H Q h => by
  obtain ⟨ρ, F, hp, env, r, e, p⟩ := h
  refine rd_mono (rd_next (re := reV Γ) r e p) fun x H1 ⟨ρ1, hp1, v, s1, r1, e1, h1, p1⟩ => ?_
  split at p1
  · unfold Rep at h1; subst h1
    exact ⟨_, rfl, p1.ok r1 rfl⟩
  · exact p1.elim
theorem Reps.drop {ρ : Rh} {N : Nat} {H : Hp} {m : Nat} : ∀ {xs : List CV} {vs : List V} (i : Nat), Reps Γ ρ N H m xs vs → Reps Γ ρ N H m (xs.drop i) (vs.drop i)
  | xs, vs, 0, h => h
  | [], vs, i + 1, h => by unfold Reps at h; subst h; exact (by unfold Reps; rfl)
  | y :: xs, vs, i + 1, h => by
    unfold Reps at h
    obtain ⟨w, r, rfl, _, h2⟩ := h
    exact Reps.drop i h2
theorem Reps.take {ρ : Rh} {N : Nat} {H : Hp} {m : Nat} : ∀ {xs : List CV} {vs : List V} (i : Nat), Reps Γ ρ N H m xs vs → Reps Γ ρ N H m (xs.take i) (vs.take i)
  | xs, vs, 0, h => by unfold Reps; rfl
  | [], vs, i + 1, h => by unfold Reps at h; subst h; exact (by unfold Reps; rfl)
  | y :: xs, vs, i + 1, h => by
    unfold Reps at h
    obtain ⟨w, r, rfl, h1, h2⟩ := h
    show Reps Γ ρ N H m (y :: xs.take i) (w :: r.take i)
    unfold Reps; exact ⟨w, _, rfl, h1, Reps.take i h2⟩
theorem reps_cut {ρ : Rh} {N : Nat} {H : Hp} {m : Nat} {xs : List CV} {vs : List V} (lo hi : Option Int) (h : Reps Γ ρ N H m xs vs) : Reps Γ ρ N H m (cutC xs lo hi) (cutV vs lo hi) := by
  unfold cutC cutV
  rw [h.len]
  exact (h.drop _).take _
theorem sOf_cut (s : List Nat) (lo hi : Option Int) : sOf (cutC s lo hi) = cutS (sOf s) lo hi := by
  unfold cutS cutC sOf
  rfl
theorem wholeC_iff {n : Nat} {lo hi : Option Int} : wholeC n lo hi = true ↔ (HT.sIx n 0 lo = 0 ∧ HT.sIx n n hi = n) := by
  unfold wholeC
  rw [Bool.and_eq_true, decide_eq_true_eq, decide_eq_true_eq]
theorem tup_slice {ρ : Rh} {K : PySem.W.Frag} {a : Addr} {vs : List V} {xs : List CV} {v : CV} {lo hi : Option Int} {Q : VK} (r : SRh Γ ρ F hp H) (hK : K = Γ.K) (h1 : SqT Γ.K H a vs) (h2 : Reps Γ ρ hp.N H hp.N xs vs) (hv : Rep Γ ρ hp.N H hp.N v (.ref a))
    (p : Post Γ F W σ ρ hp.N H (reV Γ) (if wholeC xs.length lo hi = true then .ok v hp else .ok (.tup (cutC xs lo hi)) hp) Q) : rSlA K (.ref a) lo hi H Q := by
  subst hK
  refine ⟨a, vs, rfl, h1, fun hw => ?_, fun hw l hl => ?_⟩
  · rw [← h2.len] at hw
    rw [if_pos (wholeC_iff.mpr hw)] at p
    exact p.ok r hv
  · rw [← h2.len] at hw
    rw [if_neg fun z => hw (wholeC_iff.mp z)] at p
    exact p ρ _ _ (step_new hl) (r.new hl) (rep_newT r hl (reps_cut lo hi h2))
theorem sim_sl [S : Sx X Γ W k] {e : Expr} {lo hi : Option Expr} {m : M CV} {ml mh : Option (M CV)} {p2 pos : Pos} (h : SimE X Γ W e m) (hl : SimO X Γ W lo ml) (hu : SimO X Γ W hi mh) : SimE X Γ W (.Subscript e (.Slice lo hi none p2) pos) (eSl m ml mh) :=
  pe_imp (pe_slice ((sl_list.or sl_tupA).or sl_str) h hl hu) fun σ H Q q => by
    obtain ⟨ρ, F, hp, env, r0, e0, p⟩ := q
    refine rd_mono (rd_next (re := reV Γ) r0 e0 p) fun x H1 ⟨ρ1, hp1, a, s1, r1, e1, g1, p1⟩ => ?_
    refine rd_mono (rd_next (re := reO) r1 e1 p1) fun l H2 ⟨ρ2, hp2, cl, s2, r2, e2, g2, p2⟩ => ?_
    refine rd_mono (rd_next (re := reO) r2 e2 p2) fun u H3 ⟨ρ3, hp3, cu, s3, r3, e3, g3, p3⟩ => ?_
    cases (show cl = l from g2)
    cases (show cu = u from g3)
    have gx : Rep Γ ρ3 hp3.N H3 hp3.N a x := g1.mono (s2.trans s3) (Nat.le_refl _) (s2.trans s3).le
    clear g1 p2 p1 p
    unfold vSl at p3
    split at p3
    · unfold Rep at gx; subst gx
      split at p3
      · rename_i hz
        refine .inr ⟨_, rfl, by rw [sOf_len]; exact okLen_le hz, ?_⟩
        rw [← sOf_cut]
        exact p3.ok r3 repS
      · exact p3.elim
    · have gx' := gx
      unfold Rep at gx
      obtain ⟨b, vs, rfl, h1, h2⟩ := gx
      exact .inl (.inr (tup_slice r3 S.K (sqT_of h1) h2 gx' p3))
    · have gx' := gx
      unfold Rep at gx
      obtain ⟨b, vs, rfl, h1, h2⟩ := gx
      exact .inl (.inr (tup_slice r3 S.K (sqT_wr h1) h2 gx' p3))
    · split at p3
      · rename_i xs he
        obtain ⟨b, vs, rfl, h1, h2⟩ := seqItems_list r3 (fun ys z => by subst z; rename_i hz _; exact (hz ys rfl).elim) (fun ys z => by subst z; rename_i hz; exact (hz ys rfl).elim) he gx
        exact .inl (.inl ⟨b, vs, rfl, S.K ▸ h1, fun l hl => post_newL r3 (reps_cut _ _ h2) hl p3⟩)
      · exact p3.elim
end
end Bl

/-! Own layer, part L: enumerate of a list, a tuple, a text. -/
namespace Bl
open PySem PySem.Spec PyProof.Rows L2

/-- enumerate(v) begins: v any of those that Begins tells of -/
theorem enum1_meets {v : Value} {o : Obj} {G : Heap → Prop} (B : Begins v o G) :
    Meets (Builtin.«enumerate.__new__» ⟨[.type "enumerate", v], []⟩)
      (fun _ R s => G s.heap ∧ R (.ok (.ret (.ref (s.heap.push o).objs.size)))
        { s with heap := (s.heap.push o).push { cls := .type "enumerate",
                                                data := .fields #[.none, .bool false, .ref s.heap.objs.size, rawInt 0, .none, .none] } }) :=
  .of_wp fun prog w A R s hs => by
    obtain ⟨hp, g, d, tk, os⟩ := s
    obtain ⟨hG, hR⟩ := hs
    have hsub := sub_enumerate
    have begin1 : ∀ {A' : Around} {E : Value → Shared → Prop} {Q : Value → Shared → Prop},
        Q (.ref hp.objs.size) ⟨hp.push o, g, d, tk, os⟩ → wpAny (model prog w) A' (pyIter v) Q E ⟨hp, g, d, tk, os⟩ :=
      fun q => B.iter prog w _ _ ⟨hp, g, d, tk, os⟩ _ hG q
    wp_walk using begin1
    refine wpAny_stack_any fun _ => wpAny_pure ?_
    split
    · rename_i c _ _ _ _ _
      cases (c == Value.type "enumerate") <;>
        · wp_walk using begin1
          exact ⟨_, rfl, hR⟩
    · wp_walk using begin1
      exact ⟨_, rfl, hR⟩
theorem enum1_begins {prog : Program} {w : World} {A : Around} {E : Value → Shared → Prop} {s : Shared} {v : Value} {o : Obj} {G : Heap → Prop} {Q : Value → Shared → Prop}
    (B : Begins v o G) (hG : G s.heap)
    (hQ : ∀ h', IsEnum h' (s.heap.objs.size + 1) s.heap.objs.size 0 .none → h'.get? s.heap.objs.size = some o →
      (∀ b z, s.heap.get? b = some z → h'.get? b = some z) → Q (.ref (s.heap.objs.size + 1)) { s with heap := h' }) :
    wpAny (model prog w) A (call (.type "enumerate") [v]) Q E s := by
  refine callType_new F.called_enumerate (by decide) (F.typeCall_enumerate_1 _) (F.newCall_enumerate_1 _)
    (fun obj => F.args_object_init_2 obj _) F.entry_enumerate_new (enum1_meets B) ⟨hG, ?_⟩
  have sz : (s.heap.push o).objs.size = s.heap.objs.size + 1 := Heap.size_push ..
  show _ ∧ _
  rw [sz]
  have at1 : IsEnum ((s.heap.push o).push { cls := .type "enumerate", data := .fields #[.none, .bool false, .ref s.heap.objs.size, rawInt 0, .none, .none] })
      (s.heap.objs.size + 1) s.heap.objs.size 0 .none := by
    have z := Heap.get?_push_size (s.heap.push o)
      (o := { cls := .type "enumerate", data := .fields #[.none, .bool false, .ref s.heap.objs.size, rawInt 0, .none, .none] }) rfl
    rwa [sz] at z
  exact ⟨⟨_, at1, rfl⟩, hQ _ at1 (Heap.get?_push_of_some _ (Heap.get?_push_size _ B.free)) fun b z q => Heap.get?_push_of_some _ (Heap.get?_push_of_some _ q)⟩
section
variable {X : Cx} {pins : List (Addr × Obj)} {σ : L2.St} {H : Hp} {s : Shared} {E : Value → Shared → Prop} {e it : Addr} {i n : Nat} {old : Value}
  {fp : List Addr} {P : Nat → Value → Prop} {St : Nat → Heap → Prop} {Y : V → Prop} {elts : List Expr} {kk : Nat} {tpos : Pos}
/-- one turn, by what the inner iterator draws -/
theorem enumD_item (I : Inv X pins σ H s) (hf : ∀ b ∈ [e, it], FpOk X pins H b) (he : IsEnum s.heap e it ((i : Nat) : Int) old) (hne : e ≠ it) (hil : it < s.heap.objs.size)
    (D : Draws X.prog X.w X.A.in1 it fp n P St) (hst : St i s.heap) (hlt : i < n) (hef : e ∉ fp) (hP : ∀ v, P i v → ∃ x, RelV x v ∧ Y x) :
    wpAny (model X.prog X.w) X.A (pyNext (.ref e)) (fun r s1 => ∃ u, r = some u ∧
      wpAny (model X.prog X.w) X.A (letOwnedTupleGo (.Tuple elts kk tpos) (.ref e) u) (fun _ s2 => ∃ x H', Inv X pins σ H' s2 ∧ RelV x u ∧
        (∃ T z, x = .ref T ∧ H T = none ∧ H' = upd H T (.tup [.int (i : Nat), z]) ∧ Y z) ∧
        ((∃ old', IsEnum s2.heap e it ((i + 1 : Nat) : Int) old') ∧ St (i + 1) s2.heap) ∧ ∀ b ∈ [e, it], H' b = none) E s1) E s := by
  have hel : e < s.heap.objs.size := Heap.lt_size he
  refine wpAny_pyNext_enum_itemC D he hst hlt hne hef fun u h' tk hu ho hst' hT hsz hk => ?_
  obtain ⟨z, rz, yz⟩ := hP u hu
  refine ⟨_, rfl, wpAny_letOwnedTupleGo_enum (s := { s with heap := h', toks := tk + 1 }) ho fun h2 he2 sb => ?_⟩
  have hT2 : h2.get? s.heap.objs.size = some { cls := .type "tuple", data := .seq #[.int i tk, u] } := (sb.2 _ (Nat.ne_of_gt hel)).trans hT
  have new : ObjOk X.prog X.w (upd H s.heap.objs.size (.tup [.int (i : Nat), z])) h2 s.heap.objs.size (.tup [.int (i : Nat), z]) := by
    refine ⟨by show 2 ≤ sizeLine; decide, [.int i tk, u], .cons ⟨_, rfl⟩ (.cons rz .nil), ?_⟩
    exact ⟨_, hT2, rfl, _, rfl⟩
  have I1 : Inv X pins σ (upd H s.heap.objs.size (.tup [.int (i : Nat), z])) { s with heap := h2, toks := tk + 1 } := by
    refine I.turnedNew (ch := [e, it]) (fun b ob hb q => ?_) hf (Nat.le_refl _) new
    have b1 : b ≠ e := fun z => hb (by simp [z])
    have b2 : b ≠ it := fun z => hb (by simp [z])
    exact (sb.2 b b1).trans (hk b ob b1 b2 q)
  refine ⟨.ref s.heap.objs.size, _, I1, rfl, ⟨_, z, rfl, I.hok.fresh (Nat.le_refl _), rfl, yz⟩, ⟨⟨u, ?_⟩, ?_⟩, fun b hb => ?_⟩
  · have e1 : ((i + 1 : Nat) : Int) = ((i : Nat) : Int) + 1 := by omega
    rw [e1]; exact he2
  · exact D.frame _ _ _ hst' fun b hb o q => (sb.2 b fun w => hef (w ▸ hb)).trans q
  · have hb' : b < s.heap.objs.size := by
      rcases List.mem_cons.mp hb with z | z
      · rw [z]; exact hel
      · rw [List.mem_singleton.mp z]; exact hil
    rw [upd_ne (Nat.ne_of_lt hb')]
    exact (hf b hb).1
theorem enumD_done (I : Inv X pins σ H s) (hf : ∀ b ∈ [e, it], FpOk X pins H b) {c : Int} (he : IsEnum s.heap e it c old)
    (D : Draws X.prog X.w X.A.in1 it fp n P St) (hst : St n s.heap) : wpAny (model X.prog X.w) X.A (pyNext (.ref e)) (fun r s1 => r = none ∧ Inv X pins σ H s1) E s := by
  obtain ⟨f0, f1, f2, f3, f4, f5⟩ := hf it (by simp)
  exact wpAny_pyNext_enum_endD D he hst fun h' eb => ⟨rfl, I.turned (t' := s.toks) (fun b o hb q => eb b o hb q) f0 f1 f3 f4 f5⟩
end
/-- the tuple at a, each item in a new pair -/
def IteT (K : PySem.W.Frag) (a : Addr) : It where
  go := fun i H => ∃ (xs : List V) (x : V), SqT K H a xs ∧ xs[i]? = some x
  yld := fun i H v H' => ∃ T x, v = .ref T ∧ H T = none ∧ H' = upd H T (.tup [.int (i : Nat), x]) ∧ ∀ xs, SqT K H a xs → xs[i]? = some x
  stop := fun i H => ∃ xs : List V, SqT K H a xs ∧ xs.length = i
theorem turn_enT {P : Program} {w : World} {K : PySem.W.Frag} {elts : List Expr} {kk : Nat} {tpos : Pos} (a e it : Addr) :
    Turn P w K (.Tuple elts kk tpos) (IteT K a) [e, it] e (fun i h => ((∃ old, IsEnum h e it ((i : Nat) : Int) old) ∧ h.IsTupleIter it a i) ∧ e ≠ it) where
  mem := by simp
  obj := fun i h st b hb => by
    obtain ⟨⟨⟨old, he⟩, ⟨o, ho, hc, hd⟩⟩, _⟩ := st
    rcases List.mem_cons.mp hb with z | z
    · rw [z]; exact ⟨_, he, fun v q => nomatch q⟩
    · rw [List.mem_singleton.mp z]; exact ⟨o, ho, fun v q => by rw [hd] at q; cases q⟩
  keep := fun i h h' st k => let ⟨⟨⟨old, he⟩, hi⟩, hne⟩ := st; ⟨⟨⟨old, k e (by simp) _ he⟩, hi.at fun o q => k it (by simp) o q⟩, hne⟩
  item := by
    intro X hP hw hK hc i pins s σ H E I hf st hg
    subst hP hw hK
    obtain ⟨⟨⟨old, he⟩, hit⟩, hne⟩ := st
    obtain ⟨xs, x, hq, hx⟩ := hg
    obtain ⟨its, rv, p, hz⟩ := I.tuple hq
    obtain ⟨u, hu, ru⟩ := rv.get hx
    have p' : s.heap.IsTuple a its.toArray := p
    obtain ⟨oa, ha, hca, _⟩ := id p'
    obtain ⟨oi, hoi, hci, _⟩ := id hit
    have ae : e ≠ a := fun z => by
      rw [← z, he] at ha; cases ha; exact absurd (show Value.type "enumerate" = Value.type "tuple" from hca) (by decide)
    have ai : a ≠ it := fun z => by
      rw [z, hoi] at ha; cases ha; rw [hci] at hca; exact absurd hca (by decide)
    have lt : i < its.toArray.size := by
      have := rv.length
      have := (List.getElem?_eq_some_iff.mp hx).1
      rw [List.size_toArray]; omega
    refine wpAny_mono (enumD_item (elts := elts) (kk := kk) (tpos := tpos) (Y := fun z => xs[i]? = some z) I hf he hne (Heap.lt_size hoi) (Draws.tuple (show X.A.in1.handled = none from I.ok.hd hc) it a ai its.toArray) ⟨hit, p'⟩ lt (by simp [hne, ae]) ?_) (fun r s1 => ?_) fun _ _ q => q
    · intro v hv
      have e1 : v = u := by
        rw [List.getElem?_toArray, hu] at hv
        exact (Option.some.inj hv).symm
      rw [e1]; exact ⟨x, ru, hx⟩
    · rintro ⟨u', e1, h1⟩
      refine ⟨u', e1, wpAny_mono h1 (fun _ s2 => ?_) fun _ _ q => q⟩
      rintro ⟨y, H', I1, ry, ⟨T, z, e2, nT, eH, yz⟩, ⟨he', st'⟩, fr⟩
      exact ⟨y, H', I1, ry, ⟨T, z, e2, nT, eH, fun ys hy => by rw [I.tuple_inj hy hq]; exact yz⟩, ⟨⟨he', st'.1⟩, hne⟩, fr⟩
  done := by
    intro X hP hw hK hc i pins s σ H E I hf st hg
    subst hP hw hK
    obtain ⟨⟨⟨old, he⟩, hit⟩, hne⟩ := st
    obtain ⟨xs, hq, hl⟩ := hg
    obtain ⟨its, rv, p, hz⟩ := I.tuple hq
    have p' : s.heap.IsTuple a its.toArray := p
    obtain ⟨oa, ha, hca, _⟩ := id p'
    obtain ⟨oi, hoi, hci, _⟩ := id hit
    have ai : a ≠ it := fun z => by
      rw [z, hoi] at ha; cases ha; rw [hci] at hca; exact absurd hca (by decide)
    have e1 : its.toArray.size = i := by rw [List.size_toArray, ← rv.length, hl]
    exact enumD_done I hf he (Draws.tuple (show X.A.in1.handled = none from I.ok.hd hc) it a ai its.toArray) ⟨by rw [e1]; exact hit, p'⟩
  self := fun A i s Q E st h => let ⟨⟨⟨_, he⟩, _⟩, _⟩ := st; wpAny_pyIter_enum he h
/-- the text x, each sign in a new pair -/
def IteS (x : Str) : It where
  go := fun i _ => i < x.cps.size
  yld := fun i H v H' => ∃ T c, x.cps[i]? = some c ∧ v = .ref T ∧ H T = none ∧ H' = upd H T (.tup [.int (i : Nat), .str ⟨#[c]⟩])
  stop := fun i _ => x.cps.size = i
theorem turn_enS {P : Program} {w : World} {K : PySem.W.Frag} {elts : List Expr} {kk : Nat} {tpos : Pos} (x : Str) (t : Tok) (e it : Addr) :
    Turn P w K (.Tuple elts kk tpos) (IteS x) [e, it] e (fun i h => ((∃ old, IsEnum h e it ((i : Nat) : Int) old) ∧ h.IsStrIter it (strIterType x) x t i) ∧ e ≠ it) where
  mem := by simp
  obj := fun i h st b hb => by
    obtain ⟨⟨⟨old, he⟩, ⟨o, ho, hc, hd⟩⟩, _⟩ := st
    rcases List.mem_cons.mp hb with z | z
    · rw [z]; exact ⟨_, he, fun v q => nomatch q⟩
    · rw [List.mem_singleton.mp z]; exact ⟨o, ho, fun v q => by rw [hd] at q; cases q⟩
  keep := fun i h h' st k => let ⟨⟨⟨old, he⟩, ⟨o, ho, r⟩⟩, hne⟩ := st; ⟨⟨⟨old, k e (by simp) _ he⟩, ⟨o, k it (by simp) o ho, r⟩⟩, hne⟩
  item := by
    intro X hP hw hK hc i pins s σ H E I hf st hg
    subst hP hw hK
    obtain ⟨⟨⟨old, he⟩, hit⟩, hne⟩ := st
    obtain ⟨oi, hoi, hci, _⟩ := id hit
    refine wpAny_mono (enumD_item (elts := elts) (kk := kk) (tpos := tpos) (Y := fun z => ∃ c, x.cps[i]? = some c ∧ z = .str ⟨#[c]⟩) I hf he hne (Heap.lt_size hoi) (Draws.text (show X.A.in1.handled = none from I.ok.hd hc) it x t) hit hg (by simp [hne]) ?_) (fun r s1 => ?_) fun _ _ q => q
    · rintro v ⟨c, u, h1, h2⟩
      exact ⟨.str ⟨#[c]⟩, ⟨u, h2⟩, c, h1, rfl⟩
    · rintro ⟨u', e1, h1⟩
      refine ⟨u', e1, wpAny_mono h1 (fun _ s2 => ?_) fun _ _ q => q⟩
      rintro ⟨y, H', I1, ry, ⟨T, z, e2, nT, eH, c, hc1, hz⟩, ⟨he', st'⟩, fr⟩
      subst hz
      exact ⟨y, H', I1, ry, ⟨T, c, hc1, e2, nT, eH⟩, ⟨⟨he', st'⟩, hne⟩, fr⟩
  done := by
    intro X hP hw hK hc i pins s σ H E I hf st hg
    subst hP hw hK
    obtain ⟨⟨⟨old, he⟩, hit⟩, hne⟩ := st
    have e1 : x.cps.size = i := hg
    exact enumD_done I hf he (Draws.text (show X.A.in1.handled = none from I.ok.hd hc) it x t) (by rw [e1]; exact hit)
  self := fun A i s Q E st h => let ⟨⟨⟨_, he⟩, _⟩, _⟩ := st; wpAny_pyIter_enum he h
/-- enumerate(v): v a list, a tuple, a text -/
def iEnA (K : PySem.W.Frag) (ta : TA) : TI := fun σ H R => ta σ H fun vs H1 => (∃ a xs, vs = [.ref a] ∧ SqL K H1 a xs ∧ R (Ite K a) H1) ∨ (∃ a xs, vs = [.ref a] ∧ SqT K H1 a xs ∧ R (IteT K a) H1) ∨ ∃ x, vs = [.str x] ∧ R (IteS x) H1
theorem pi_enA {X : Cx} {e : Expr} {ta : TA} {p pos tpos : Pos} {elts : List Expr} {kk : Nat} (hg : Gl X "enumerate") (hm : X.mg "enumerate" = none) (ha : PA X [e] ta) (hs : starEach [e] X.env = [(false, eval e X.env)] := by rfl) :
    PI X (.Tuple elts kk tpos) (.Call (.Name "enumerate" p) [e] [] pos) (iEnA X.K ta) := by
  refine ⟨fun pins s σ H R I h => Call_ (ld_blt I hg hm boot_enumerate (PyProof.Rows.callWith_type1 (thn (ha.run pos pins s σ H _ I h) fun us s1 ⟨vs, H1, I1, r1, q1⟩ => ?_) hs rfl))⟩
  have two : ∀ b, b ∈ [s1.heap.objs.size + 1, s1.heap.objs.size] → FpOk X pins H1 b := fun b hb => by
    have hle : s1.heap.objs.size ≤ b := by
      rcases List.mem_cons.mp hb with z | z
      · rw [z]; exact Nat.le_add_right _ _
      · rw [List.mem_singleton.mp z]; exact Nat.le_refl _
    exact I1.fpOk hle (I1.hok.fresh hle)
  have one : ∀ v, vs = [v] → ∃ u, us = [u] ∧ L2.RelV v u := fun v e => by
    subst e
    cases r1 with
    | cons r rr =>
      cases rr
      exact ⟨_, rfl, r⟩
  rcases q1 with ⟨a, xs, ex, hq, q⟩ | ⟨a, xs, ex, hq, q⟩ | ⟨x, ex, q⟩
  · obtain ⟨u, rfl, r⟩ := one _ ex
    cases r
    obtain ⟨its, rv, p', hz⟩ := I1.list hq
    refine call_enumerate_list p'.isList fun h' he hit hsz hk => wpAny_pyIter_enum he ?_
    exact ⟨s1.heap.objs.size + 1, [s1.heap.objs.size + 1, s1.heap.objs.size], _, _, H1, rfl, I1.kept (t' := s1.toks) hk, turn_enum a (s1.heap.objs.size + 1) s1.heap.objs.size, ⟨⟨.none, he⟩, hit, Nat.succ_ne_self _⟩, two, q⟩
  · obtain ⟨u, rfl, r⟩ := one _ ex
    cases r
    obtain ⟨its, rv, p', hz⟩ := I1.tuple hq
    refine enum1_begins (begins_tuple a its.toArray) (show s1.heap.IsTuple a its.toArray from p') fun h' he hit hk => wpAny_pyIter_enum he ?_
    exact ⟨s1.heap.objs.size + 1, [s1.heap.objs.size + 1, s1.heap.objs.size], _, _, H1, rfl, I1.kept (t' := s1.toks) hk, turn_enT a (s1.heap.objs.size + 1) s1.heap.objs.size, ⟨⟨⟨.none, he⟩, ⟨_, hit, rfl, rfl⟩⟩, Nat.succ_ne_self _⟩, two, q⟩
  · obtain ⟨u, rfl, r⟩ := one _ ex
    obtain ⟨t, rfl⟩ := r
    refine enum1_begins (begins_text x t) trivial fun h' he hit hk => wpAny_pyIter_enum he ?_
    exact ⟨s1.heap.objs.size + 1, [s1.heap.objs.size + 1, s1.heap.objs.size], _, _, H1, rfl, I1.kept (t' := s1.toks) hk, turn_enS x t (s1.heap.objs.size + 1) s1.heap.objs.size, ⟨⟨⟨.none, he⟩, ⟨_, hit, rfl, rfl⟩⟩, Nat.succ_ne_self _⟩, two, q⟩

/-! ### the clean side -/
section
variable {X : Cx} {Γ : Gx} {W : WX} {k : Nat} {F : List Nat} {ρ : Rh} {N : Nat} {H : Hp} {σ : L2.St} {env : En} {hp : Hc} {D : Ends} {pos : Pos}
/-- an unchanging row, no further than its end -/
def snapE (xs : List CV) : ITc := ⟨xs.length + 1, fun i _ => if i ≤ xs.length then some xs[i]? else none⟩
def itEnA : List CV → Hc → Option ITc
  | [x], hp => match x with
    | .tup xs => some (enumI (snapE xs))
    | .wtp xs => some (enumI (snapE xs))
    | .str s => some (enumI (snapE (s.map fun c => .str [c])))
    | x => (itSeq x hp).map enumI
  | _, _ => none
theorem itok_enT {ρ₀ : Rh} {N₀ : Nat} {H₀ : Hp} {a : Addr} {xs : List CV} {vs : List V} (h : insU ρ₀ N₀ H₀ a (.tup vs) ∨ WrT Γ.K a vs) (q : Reps Γ ρ₀ N₀ H₀ N₀ xs vs) : ItOk Γ F ρ₀ N₀ H₀ (IteT Γ.K a) (enumI (snapE xs)).next := by
  intro i ρ hp H s r
  have h' : SqT Γ.K H a vs := sqT_wr (h.imp (s.keepI _ _ rfl) id)
  have q' := q.mono s (Nat.le_refl _) s.le
  show match (match (if i ≤ xs.length then some xs[i]? else none) with | some (some v) => some (some (CV.tup [.int i, v])) | some none => some none | none => none) with | none => True | some none => _ | some (some v) => _
  by_cases hi : i ≤ xs.length
  · rw [if_pos hi]
    cases e : xs[i]? with
    | none =>
      refine ⟨vs, h', ?_⟩
      rw [← q'.len]
      exact Nat.le_antisymm (List.getElem?_eq_none_iff.mp e) hi
    | some v =>
      obtain ⟨w, e1, q1⟩ := q'.get e
      refine ⟨⟨vs, w, h', e1⟩, fun y H' yl => ?_⟩
      obtain ⟨T, z, rfl, hT, rfl, hz⟩ := yl
      have e2 := hz vs h'
      rw [e1] at e2
      cases e2
      exact ⟨step_new hT, r.new hT, rep_pair r hT repI q1⟩
  · rw [if_neg hi]; trivial
theorem itok_enS {ρ₀ : Rh} {N₀ : Nat} {H₀ : Hp} {s : List Nat} : ItOk Γ F ρ₀ N₀ H₀ (IteS (sOf s)) (enumI (snapE (s.map fun c => .str [c]))).next := by
  intro i ρ hp H st r
  show match (match (if i ≤ (s.map fun c => CV.str [c]).length then some (s.map fun c => CV.str [c])[i]? else none) with | some (some v) => some (some (CV.tup [.int i, v])) | some none => some none | none => none) with | none => True | some none => _ | some (some v) => _
  have sz : (sOf s).cps.size = s.length := by simp [sOf]
  by_cases hi : i ≤ (s.map fun c => CV.str [c]).length
  · rw [if_pos hi]
    rw [List.length_map] at hi
    rw [List.getElem?_map]
    cases e : s[i]? with
    | none =>
      show (sOf s).cps.size = i
      rw [sz]
      exact Nat.le_antisymm (List.getElem?_eq_none_iff.mp e) hi
    | some c =>
      have hl := (List.getElem?_eq_some_iff.mp e).1
      refine ⟨by show i < (sOf s).cps.size; rw [sz]; exact hl, fun y H' yl => ?_⟩
      obtain ⟨T, c', hc, rfl, hT, rfl⟩ := yl
      have e3 : (sOf s).cps[i]? = s[i]? := by simp [sOf]
      rw [e3, e] at hc
      cases hc
      exact ⟨step_new hT, r.new hT, rep_pair r hT repI (repS (s := [c]))⟩
  · rw [if_neg hi]; trivial
theorem sim_ienA [S : Sx X Γ W k] {a : Expr} {ms : List (M CV)} {p pos tpos : Pos} {elts : List Expr} {kk : Nat} (hg : Gl X "enumerate") (hm : X.mg "enumerate" = none) (ha : SimA X Γ W [a] (evA ms)) (hs : starEach [a] X.env = [(false, eval a X.env)] := by rfl) :
    SimI X Γ W (.Tuple elts kk tpos) (.Call (.Name "enumerate" p) [a] [] pos) (mIt (evA ms) itEnA) :=
  pi_imp (pi_enA hg hm ha hs) fun σ H Q q => by
    refine rd_mono (mIt_ok (re := reA Γ) q) fun xs H1 ⟨ρ1, F, hp1, as, it, r1, h1, e1, hJ⟩ => ?_
    rw [S.K]
    unfold itEnA at e1
    split at e1
    · obtain ⟨v, rfl, h2⟩ := Reps.one h1
      split at e1
      · cases e1
        unfold Rep at h2
        obtain ⟨b, vs, rfl, g1, g2⟩ := h2
        exact .inr (.inl ⟨b, vs, rfl, sqT_of g1, hJ _ (itok_enT (.inl g1) g2)⟩)
      · cases e1
        unfold Rep at h2
        obtain ⟨b, vs, rfl, g1, g2⟩ := h2
        exact .inr (.inl ⟨b, vs, rfl, sqT_wr g1, hJ _ (itok_enT g1 g2)⟩)
      · cases e1
        unfold Rep at h2; subst h2
        exact .inr (.inr ⟨_, rfl, hJ _ itok_enS⟩)
      · rename_i x _ _ _ _ _
        cases q : itSeq x hp1 with
        | none => rw [q] at e1; cases e1
        | some it0 =>
          rw [q] at e1; cases e1
          obtain ⟨b, vs, rfl, g1, g2⟩ := itSeq_ok r1 h2 q
          exact .inl ⟨b, vs, rfl, g1, hJ _ (itok_enumL g2)⟩
    · cases e1
end
end Bl

/-! Own layer, part M: what the top has written; any row that is walked; what is not reached. -/
namespace Bl
open PySem PySem.Spec PyProof.Rows L2
section
variable {X : Cx} {Γ : Gx} {W : WX} {k : Nat} {F : List Nat} {ρ : Rh} {N : Nat} {H : Hp} {σ : L2.St} {env : En} {hp : Hc} {D : Ends} {pos : Pos}
/-! ### not reached -/
def eStuck : M CV := fun _ _ => .stuck
def sStuck : MS := fun _ _ => .stuck
theorem sim_estuck {e : Expr} : SimE X Γ W e eStuck := ⟨fun _ _ _ _ _ _ h => by obtain ⟨_, _, _, _, _, _, p⟩ := h; exact p.elim⟩
theorem sim_sstuck {s : Stmt} : SimS X Γ W s sStuck := ⟨fun _ _ _ _ _ _ h => by obtain ⟨_, _, _, _, _, _, p⟩ := h; exact p.elim⟩

/-! ### names of the module -/
def Gv (mg : Str → Option Value) (Γ : Gx) (x : Str) (cv : CV) : Prop := ∃ u v, mg x = some u ∧ L2.RelV v u ∧ ∀ ρ N H m, Rep Γ ρ N H m cv v
theorem sim_glob {x : Str} {cv : CV} (h : Gv X.mg Γ x cv) (hg : Gl X x := by rfl) (hd : (x == ("__debug__" : Str)) = false := by decide) : SimE X Γ W (.Name x pos) (eC cv) := by
  obtain ⟨u, v, h1, h2, h3⟩ := h
  exact sim_c (pe_glob hg h1 h2 hd) fun ρ N H => h3 ρ N H N
/-- a value of the written part -/
def wB (K : PySem.W.Frag) : Nat → CV → Value → Bool
  | _, .non, .none => true
  | _, .bl b, .bool c => b == c
  | _, .int i, .int j _ => decide (i = j)
  | _, .str s, .str y _ => decide (sOf s = y)
  | d + 1, .wtp xs, .ref a => match K.lookup a with
    | some ⟨.type c, _, .seq its _, _⟩ => decide (c = "tuple") && (decide (its.size ≤ 16777216) && (decide (its.toList.length = xs.length) && (xs.zip its.toList).all fun p => wB K d p.1 p.2))
    | _ => false
  | _, _, _ => false
def wV : CV → Value → V
  | .non, _ => .non
  | .bl b, _ => .bl b
  | .int i, _ => .int i
  | .str s, _ => .str (sOf s)
  | _, .ref a => .ref a
  | _, _ => .non
theorem wB_list {K : PySem.W.Frag} {Γ : Gx} {d : Nat} (ih : ∀ x u, wB K d x u = true → L2.RelV (wV x u) u ∧ ∀ ρ N H m, Rep Γ ρ N H m x (wV x u)) : ∀ (xs : List CV) (us : List Value), us.length = xs.length → (xs.zip us).all (fun p => wB K d p.1 p.2) = true →
    Vals ((xs.zip us).map fun p => wV p.1 p.2) us ∧ ∀ ρ N H m, Reps Γ ρ N H m xs ((xs.zip us).map fun p => wV p.1 p.2)
  | [], [], _, _ => ⟨.nil, fun _ _ _ _ => by unfold Reps; rfl⟩
  | [], _ :: _, h, _ => by cases h
  | _ :: _, [], h, _ => by cases h
  | x :: xs, u :: us, hl, h => by
    rw [List.zip_cons_cons, List.all_cons, Bool.and_eq_true] at h
    obtain ⟨a1, a2⟩ := ih x u h.1
    obtain ⟨b1, b2⟩ := wB_list ih xs us (by simpa using hl) h.2
    refine ⟨.cons a1 b1, fun ρ N H m => ?_⟩
    show Reps Γ ρ N H m (x :: xs) (wV x u :: _)
    unfold Reps
    exact ⟨_, _, rfl, a2 ρ N H m, b2 ρ N H m⟩
theorem wB_ok {K : PySem.W.Frag} {Γ : Gx} (hK : Γ.K = K) : ∀ (d : Nat) (x : CV) (u : Value), wB K d x u = true → L2.RelV (wV x u) u ∧ ∀ ρ N H m, Rep Γ ρ N H m x (wV x u) := by
  intro d
  induction d with
  | zero =>
    intro x u h
    cases x <;> cases u <;> first | (simp only [wB, Bool.false_eq_true] at h; done) | skip
    · exact ⟨rfl, fun _ _ _ _ => repN⟩
    · rename_i b c
      have e : b = c := by simpa [wB] using h
      subst e
      exact ⟨rfl, fun _ _ _ _ => repB⟩
    · rename_i i j t
      have e : i = j := by simpa [wB] using h
      subst e
      exact ⟨⟨t, rfl⟩, fun _ _ _ _ => repI⟩
    · rename_i s y t
      have e : sOf s = y := by simpa [wB] using h
      subst e
      exact ⟨⟨t, rfl⟩, fun _ _ _ _ => repS⟩
  | succ d ih =>
    intro x u h
    cases x <;> cases u <;> first | (simp only [wB, Bool.false_eq_true] at h; done) | skip
    · exact ⟨rfl, fun _ _ _ _ => repN⟩
    · rename_i b c
      have e : b = c := by simpa [wB] using h
      subst e
      exact ⟨rfl, fun _ _ _ _ => repB⟩
    · rename_i i j t
      have e : i = j := by simpa [wB] using h
      subst e
      exact ⟨⟨t, rfl⟩, fun _ _ _ _ => repI⟩
    · rename_i s y t
      have e : sOf s = y := by simpa [wB] using h
      subst e
      exact ⟨⟨t, rfl⟩, fun _ _ _ _ => repS⟩
    · rename_i xs a
      have h' : (match K.lookup a with
        | some ⟨.type c, _, .seq its _, _⟩ => decide (c = "tuple") && (decide (its.size ≤ 16777216) && (decide (its.toList.length = xs.length) && (xs.zip its.toList).all fun p => wB K d p.1 p.2))
        | _ => false) = true := by simpa [wB] using h
      split at h'
      · rename_i c od its n sl q
        simp only [Bool.and_eq_true, decide_eq_true_eq] at h'
        obtain ⟨h1, h2, h3, h4⟩ := h'
        obtain ⟨r1, r2⟩ := wB_list (Γ := Γ) ih xs its.toList h3 h4
        refine ⟨rfl, fun ρ N H m => ?_⟩
        show Rep Γ ρ N H m (.wtp xs) (.ref a)
        unfold Rep
        refine ⟨a, _, rfl, .inr ?_, r2 ρ N H m⟩
        rw [hK]
        exact ⟨_, its, n, q, congrArg Value.type h1, rfl, by rw [sizeLine_eq]; exact h2, r1⟩
      · cases h'
def gvB (K : PySem.W.Frag) (x : Str) (cv : CV) : Bool := match PySem.W.nsIn K mainGlobals x with
  | some (some u) => wB K 8 cv u
  | _ => false
theorem gvB_ok {K : PySem.W.Frag} {h : Heap} {mg : Str → Option Value} {x : Str} {cv : CV} (hK : Γ.K = K) (kin : K.In h) (ns : h.Ns mainGlobals mg) (q : gvB K x cv = true) : Gv mg Γ x cv := by
  unfold gvB at q
  split at q
  · rename_i u e
    obtain ⟨h1, h2⟩ := wB_ok hK 8 cv u q
    exact ⟨u, _, PySem.W.mg_of kin ns e, h1, h2⟩
  · cases q

/-! ### defs by the head's data -/
theorem fn_okD {P : Program} {w : World} {K : PySem.W.Frag} {mg : Str → Option Value} {base : Heap} {x qual : Str} {params : Arguments} {stm : List Stmt} {scope : Scope} {dvs : List V} {kws : List (Str × V)} {f : Addr} {fd : FuncData} {NN ps : List Str} {k n : Nat} {body : MS}
    (F : FunD K x qual params stm scope dvs kws f fd) (S : FnScope NN ps scope) (hK : Γ.K = K) (hn : ps.length = n)
    (hb : ∀ (cdv : Value) (A : Around) (outer : List Env) (s : Shared) (H : Hp) (E : XK), Sx (cxOf (L2.CX P w) P w K mg base NN qual scope f cdv A outer s H E) Γ (WK E) k →
      SimSs (cxOf (L2.CX P w) P w K mg base NN qual scope f cdv A outer s H E) Γ (WK E) stm body) :
    FnOk P w K mg base (L2.CX P w) (k + 1) f fd ps (spF Γ n (fnM NN.length body)) := by
  refine F.ok S (fun vs H Q E h => h.1.trans hn.symm) (fun cdv A outer s H vs Q E hr h => ⟨_, hb cdv A outer s H E ⟨hK.symm, rfl, S.nd, hr, takes_of rfl rfl rfl rfl⟩, ?_⟩)
  obtain ⟨hl, ρ, F', hp, args, r, e, p⟩ := h
  refine ⟨ρ, F', hp, _, r, start_rep e, ?_⟩
  unfold fnM at p
  revert p
  generalize body (args.map some ++ List.replicate (NN.length - args.length) none) hp = z
  intro p
  cases z with
  | stuck => exact p
  | ok fl hp' =>
    cases fl with
    | nx env => exact fun ρ' H' σ' s r' _ => p ρ' H' _ s r' repN
    | rt v => exact p
    | bk env => exact p.elim
    | ct env => exact p.elim
    | ex c fs env => exact fun ρ' H' σ' d s r' q _ => p ρ' H' d s r' q
/-- what is known of a module's def -/
structure DefK (K : PySem.W.Frag) (mg : Str → Option Value) (x : Str) (params : Arguments) (stm : List Stmt) (scope : Scope) (ps : List Str) : Prop where
  ex : ∃ f fd, FunD K x x params stm scope [] [] f fd ∧ mg x = some (.ref f) ∧ Binds K fd ps [] ∧ ∀ (s : Shared) (us : List Value), us.length = ps.length → BindsTo s fd ⟨us, []⟩ (ps.zip us)
  cd : ∀ (f : Addr) (fd : FuncData), FunD K x x params stm scope [] [] f fd → mg x = some (.ref f) → fd.code = .ref (He.codeOf K (x, none))
theorem DefK.kn {P : Program} {w : World} {K : PySem.W.Frag} {mg : Str → Option Value} {base : Heap} {x : Str} {params : Arguments} {stm : List Stmt} {scope : Scope} {NN ps : List Str} {k n : Nat} {body : MS}
    (d : DefK K mg x params stm scope ps) (S : FnScope NN ps scope) (hK : Γ.K = K) (hn : ps.length = n)
    (hb : ∀ (f : Addr) (cdv : Value) (A : Around) (outer : List Env) (s : Shared) (H : Hp) (E : XK), Sx (cxOf (L2.CX P w) P w K mg base NN x scope f cdv A outer s H E) Γ (WK E) k →
      SimSs (cxOf (L2.CX P w) P w K mg base NN x scope f cdv A outer s H E) Γ (WK E) stm body) : Kn P w K mg base Γ (k + 1) x n (fnM NN.length body) := by
  obtain ⟨f, fd, h1, h2, h3, _⟩ := d.ex
  exact ⟨f, fd, ps, fn_okD h1 S hK hn (hb f), h2, h1.kp, h3⟩
theorem DefK.stuck {P : Program} {w : World} {K : PySem.W.Frag} {mg : Str → Option Value} {base : Heap} {x : Str} {params : Arguments} {stm : List Stmt} {scope : Scope} {ps : List Str} {n : Nat} (d : DefK K mg x params stm scope ps) : Kn P w K mg base Γ 0 x n (fun _ _ => .stuck) := by
  obtain ⟨f, fd, h1, h2, h3, _⟩ := d.ex
  exact kn_stuck h2 h1.kp h3

theorem defK_of {K : PySem.W.Frag} {h : Heap} {mg : Str → Option Value} (kin : K.In h) (ns : h.Ns mainGlobals mg) {d : He.DefD} {ps : List Str} (c : ∃ fd, FunD K d.name d.qual d.params d.body d.scope (d.dvs K) (d.kws K) (He.fAd K d.at_) fd)
    (f : (He.Fa.glo d.name).ok K = true) (e3 : d.at_ = (d.name, none)) (e4 : d.qual = d.name) (e5 : d.dfl = []) (e6 : d.kwd = [])
    (hb : ∀ (kV doc pm : Value) (an : Option Addr) (cdv ct : Value) (us : List Value), us.length = ps.length → bindArgs (PySem.W.fnOf d.name d.name d.params d.body d.scope .none kV doc pm an cdv ct) ⟨us, []⟩ = pure (ps.zip us)) : DefK K mg d.name d.params d.body d.scope ps := by
  obtain ⟨fd, F⟩ := c
  rw [show d.dvs K = [] by unfold He.DefD.dvs; rw [e5]; rfl, show d.kws K = [] by unfold He.DefD.kws; rw [e6]; rfl, e3, e4] at F
  have hg := He.glo_ok kin ns f
  refine ⟨⟨He.ga K d.name, fd, F, hg, F.bindsN hb, fun s us hl => F.bindsA hb s us hl⟩, fun f' fd' F' hm => ?_⟩
  have ef : f' = He.ga K d.name := by
    have z := hm.symm.trans hg
    exact Value.ref.inj (Option.some.inj z)
  subst ef
  obtain ⟨oc, od, dV, kV, doc, pm, an, cdv, ct, osl, e, lk, hcd, _, _⟩ := F'.ex
  obtain ⟨c, ec⟩ := He.codeIn_ref hcd
  have e2 : fd'.code = .ref c := by rw [e]; exact ec
  rw [He.codeOf_eq (p := (d.name, none)) lk e2]
  exact e2
abbrev vIn := vInS
theorem oc_in [S : Sx X Γ W k] : OpC X Γ W (compareOp .In) (vIn false) := oc_inS
theorem oc_nin [S : Sx X Γ W k] : OpC X Γ W (compareOp .NotIn) (vIn true) := oc_ninS

/-! ### any row that is walked: a list, a tuple, a text -/
def iAny (K : PySem.W.Frag) (te : TE) : TI := fun σ H R => te σ H fun x H1 => (∃ a xs, x = .ref a ∧ SqL K H1 a xs ∧ R (Itl K a) H1) ∨ (∃ a xs, x = .ref a ∧ SqT K H1 a xs ∧ R (Itt K a) H1) ∨ ∃ s, x = .str s ∧ R (Its s) H1
theorem pi_any {tg e : Expr} {te : TE} (he : PE X e te) : PI X tg e (iAny X.K te) := by
  refine ⟨fun pins s σ H R I h => ?_⟩
  refine thn (he.run pins s σ H _ I h) fun v s1 ⟨x, H1, I1, r1, q1⟩ => ?_
  have fin : ∀ b ∈ [s1.heap.objs.size], FpOk X pins H1 b := fun b hb => by
    rw [List.mem_singleton.mp hb]
    exact I1.fpOk (Nat.le_refl _) (I1.hok.fresh (Nat.le_refl _))
  rcases q1 with ⟨a, xs, ex, hq, q⟩ | ⟨a, xs, ex, hq, q⟩ | ⟨z, ex, q⟩
  · subst ex
    cases r1
    obtain ⟨its, rv, p, hz⟩ := I1.list hq
    exact wpAny_pyIter_list p.isList ⟨s1.heap.objs.size, [s1.heap.objs.size], _, _, H1, rfl, I1.kept (t' := s1.toks) fun b o e => Heap.get?_push_of_some _ e, turn_list a _, ⟨_, Heap.get?_push_size _ rfl, rfl, rfl⟩, fin, q⟩
  · subst ex
    cases r1
    obtain ⟨its, rv, p, hz⟩ := I1.tuple hq
    exact wpAny_pyIter_tuple (show s1.heap.IsTuple a its.toArray from p) ⟨s1.heap.objs.size, [s1.heap.objs.size], _, _, H1, rfl, I1.kept (t' := s1.toks) fun b o e => Heap.get?_push_of_some _ e, turn_tuple a _, ⟨_, Heap.get?_push_size _ rfl, rfl, rfl⟩, fin, q⟩
  · subst ex
    obtain ⟨t, rfl⟩ := r1
    refine wpAny_pyIter_strU ⟨s1.heap.objs.size, [s1.heap.objs.size], _, _, H1, rfl, I1.kept (t' := s1.toks) fun b o e => Heap.get?_push_of_some _ e, turn_str _ z t (strIterType z) ?_, ⟨_, Heap.get?_push_size _ rfl, rfl, rfl⟩, fin, q⟩
    unfold strIterType
    cases z.cps.all (· < 128)
    · exact .inr rfl
    · exact .inl rfl
def itAny (v : CV) (hp : Hc) : Option ITc := match v with
  | .tup xs => some (snap xs)
  | .wtp xs => some (snap xs)
  | .str s => some (snap (s.map fun c => .str [c]))
  | v => itSeq v hp
theorem itok_str {ρ₀ : Rh} {N₀ : Nat} {H₀ : Hp} {s : List Nat} : ItOk Γ F ρ₀ N₀ H₀ (Its (sOf s)) (snap (s.map fun c => .str [c])).next := by
  intro i ρ hp H st r
  show match some (s.map fun c => CV.str [c])[i]? with | none => True | some none => _ | some (some v) => _
  rw [List.getElem?_map]
  have sz : (sOf s).cps.size = s.length := by simp [sOf]
  cases e : s[i]? with
  | none =>
    show (sOf s).cps.size ≤ i
    rw [sz]; exact List.getElem?_eq_none_iff.mp e
  | some c =>
    refine ⟨by show i < (sOf s).cps.size; rw [sz]; exact (List.getElem?_eq_some_iff.mp e).1, fun y H' yl => ?_⟩
    obtain ⟨rfl, c', hc, rfl⟩ := yl
    have e3 : (sOf s).cps[i]? = s[i]? := by simp [sOf]
    rw [e3, e] at hc
    cases hc
    exact ⟨Step.refl, r, repS (s := [c])⟩
theorem sim_iany [S : Sx X Γ W k] {tg e : Expr} {m : M CV} (h : SimE X Γ W e m) : SimI X Γ W tg e (mIt m itAny) := pi_imp (pi_any h) fun σ H Q q => by
  refine rd_mono (mIt_ok (re := reV Γ) q) fun x H1 ⟨ρ1, F, hp1, a, it, r1, h1, e1, hJ⟩ => ?_
  rw [S.K]
  have h1' : Rep Γ ρ1 hp1.N H1 hp1.N a x := h1
  unfold itAny at e1
  split at e1
  · cases e1
    unfold Rep at h1'
    obtain ⟨p, vs, rfl, q1, q2⟩ := h1'
    exact .inr (.inl ⟨p, vs, rfl, sqT_of q1, hJ _ (itok_tup (Nat.le_refl _) (.inl q1) q2)⟩)
  · cases e1
    unfold Rep at h1'
    obtain ⟨p, vs, rfl, q1, q2⟩ := h1'
    exact .inr (.inl ⟨p, vs, rfl, sqT_wr q1, hJ _ (itok_tup (Nat.le_refl _) q1 q2)⟩)
  · cases e1
    unfold Rep at h1'; subst h1'
    exact .inr (.inr ⟨_, rfl, hJ _ itok_str⟩)
  · obtain ⟨p, vs, rfl, q1, q2⟩ := itSeq_ok r1 h1' e1
    exact .inl ⟨p, vs, rfl, q1, hJ _ q2⟩
end
end Bl

/-! Own layer, part N: a call over a clean heap of its own; the caller's objects are hidden meanwhile. -/
namespace Bl
open PySem PySem.Spec PyProof.Rows L2
section
variable {X : Cx} {Γ : Gx} {W : WX} {k : Nat} {F : List Nat} {ρ ρ' : Rh} {N N' : Nat} {H H' : Hp} {σ : L2.St} {env : En} {hp : Hc} {D : Ends} {pos : Pos}
section
variable (ho : ∀ a, Own ρ' N' a → Own ρ N a)
include ho
mutual
/-- a frozen value over another clean heap that owns no more -/
theorem Rep.congr0 {m' : Nat} : ∀ (x : CV) {v : V}, Rep Γ ρ N H 0 x v → Rep Γ ρ' N' H m' x v
  | .non, v, h => by unfold Rep at h ⊢; exact h
  | .bl b, v, h => by unfold Rep at h ⊢; exact h
  | .int i, v, h => by unfold Rep at h ⊢; exact h
  | .str s, v, h => by unfold Rep at h ⊢; exact h
  | .ref n, v, h => by
    unfold Rep at h
    exact absurd h.1 (Nat.not_lt_zero _)
  | .tup xs, v, h => by
    unfold Rep at h ⊢
    obtain ⟨a, vs, e, r, q⟩ := h
    exact ⟨a, vs, e, ⟨fun o => r.1 (ho a o), r.2⟩, Reps.congr0 xs q⟩
  | .wtp xs, v, h => by
    unfold Rep at h ⊢
    obtain ⟨a, vs, e, r, q⟩ := h
    exact ⟨a, vs, e, r.imp (fun r => ⟨fun o => r.1 (ho a o), r.2⟩) id, Reps.congr0 xs q⟩
  | .wdc i, v, h => by unfold Rep at h ⊢; exact h
  | .lst xs, v, h => by
    unfold Rep at h ⊢
    obtain ⟨a, vs, e, r, q⟩ := h
    exact ⟨a, vs, e, r.imp (fun r => ⟨fun o => r.1 (ho a o), r.2⟩) id, Reps.congr0 xs q⟩
  | .dct false kvs, v, h => by
    unfold Rep at h ⊢
    obtain ⟨a, ds, e, r, q⟩ := h
    exact ⟨a, ds, e, ⟨fun o => r.1 (ho a o), r.2⟩, RepK.congr0 kvs q⟩
  | .dct true kvs, v, h => by
    unfold Rep at h ⊢
    obtain ⟨a, ds, e, r, q⟩ := h
    exact ⟨a, ds, e, ⟨fun o => r.1 (ho a o), r.2⟩, RepT.congr0 kvs q⟩
  | .ins c fs, v, h => by
    unfold Rep at h ⊢
    obtain ⟨a, dx, ds, e, r, q⟩ := h
    exact ⟨a, dx, ds, e, ⟨fun o => r.1 (ho a o), r.2⟩, RepF.congr0 fs q⟩
theorem Reps.congr0 {m' : Nat} : ∀ (xs : List CV) {vs : List V}, Reps Γ ρ N H 0 xs vs → Reps Γ ρ' N' H m' xs vs
  | [], vs, h => by unfold Reps at h ⊢; exact h
  | x :: xs, vs, h => by
    unfold Reps at h ⊢
    obtain ⟨v, r, e, h1, h2⟩ := h
    exact ⟨v, r, e, Rep.congr0 x h1, Reps.congr0 xs h2⟩
theorem RepK.congr0 {m' : Nat} : ∀ (xs : List (CV × CV)) {vs : List (Key × V)}, RepK Γ ρ N H 0 xs vs → RepK Γ ρ' N' H m' xs vs
  | [], vs, h => by unfold RepK at h ⊢; exact h
  | (k, x) :: xs, vs, h => by
    unfold RepK at h ⊢
    obtain ⟨k', v, r, e, hk, h1, h2⟩ := h
    exact ⟨k', v, r, e, hk, Rep.congr0 x h1, RepK.congr0 xs h2⟩
theorem RepT.congr0 {m' : Nat} : ∀ (xs : List (CV × CV)) {vs : List (List Key × V)}, RepT Γ ρ N H 0 xs vs → RepT Γ ρ' N' H m' xs vs
  | [], vs, h => by unfold RepT at h ⊢; exact h
  | (k, x) :: xs, vs, h => by
    unfold RepT at h ⊢
    obtain ⟨k', v, r, e, hk, h1, h2⟩ := h
    exact ⟨k', v, r, e, hk, Rep.congr0 x h1, RepT.congr0 xs h2⟩
theorem RepF.congr0 {m' : Nat} : ∀ (xs : List (Nat × CV)) {vs : List (Str × V)}, RepF Γ ρ N H 0 xs vs → RepF Γ ρ' N' H m' xs vs
  | [], vs, h => by unfold RepF at h ⊢; exact h
  | (k, x) :: xs, vs, h => by
    unfold RepF at h ⊢
    obtain ⟨v, r, e, h1, h2⟩ := h
    exact ⟨v, r, e, Rep.congr0 x h1, RepF.congr0 xs h2⟩
end
end
/-- over an empty clean heap; the answer is frozen -/
def loc (f : Fn) : Fn := fun args hp => if limL 0 args = true then (match f args ⟨0, []⟩ with
  | .ok v hp' => match frzV hp'.os 0 v with
    | some v' => .ok v' hp
    | none => .stuck
  | .exc c fs _ => .exc c fs hp
  | .stuck => .stuck) else .stuck
theorem srh_nil (t : LamX.Tabs Γ.T H) (hb : ρ.b = 0) : SRh Γ ρ [] ⟨0, []⟩ H :=
  ⟨fun i j h => by rw [hb] at h; exact absurd h (Nat.not_lt_zero _), fun i h => by rw [hb] at h; exact absurd h (Nat.not_lt_zero _), fun i o e => (by simp at e), Nat.le_refl _, fun f h => (by cases h), t⟩
/-- the callee's: all of the caller's objects hidden -/
def hide (ρ : Rh) (N : Nat) : Rh := ⟨ρ.b + N, ρ.f⟩
theorem own_hide {a : Addr} : Own (hide ρ N) 0 a ↔ Own ρ N a := Iff.rfl
theorem RepO.ownK {m : Nat} {a : Addr} : ∀ {o : CO}, RepO Γ ρ N H m a o → ∃ u, Bl.ownK u = true ∧ H a = some u
  | .lst xs, h => let ⟨_, e, _⟩ := h; ⟨_, rfl, e⟩
  | .dic false kvs, h => let ⟨_, e, _⟩ := h; ⟨_, rfl, e⟩
  | .dic true kvs, h => let ⟨_, e, _⟩ := h; ⟨_, rfl, e⟩
  | .ins c fs, h => let ⟨_, _, e, _⟩ := h; ⟨_, rfl, e⟩
theorem SRh.all (r : SRh Γ ρ F hp H) (i : Nat) (hi : i < ρ.b + hp.N) : ∃ u, Bl.ownK u = true ∧ H (ρ.f i) = some u := by
  by_cases hb : i < ρ.b
  · exact r.hidt i hb
  · obtain ⟨o, _, q⟩ := r.at (i := i - ρ.b) (by omega)
    have ei : ρ (i - ρ.b) = ρ.f i := by
      show ρ.f (ρ.b + (i - ρ.b)) = ρ.f i
      rw [Nat.add_sub_cancel' (Nat.le_of_not_lt hb)]
    rw [← ei]
    exact q.ownK
theorem SRh.hide (r : SRh Γ ρ F hp H) : SRh Γ (hide ρ hp.N) [] ⟨0, []⟩ H :=
  ⟨r.inj, fun i hi => r.all i hi, fun i o e => (by simp at e), Nat.le_refl _, fun f h => (by cases h), r.tab⟩
/-- the caller's side stands behind such a call -/
theorem loc_own (s : Step (hide ρ N) 0 H ρ' N' H') (a : Addr) : Own ρ N a → Own ρ' N' a := fun ⟨i, hi, e⟩ =>
  ⟨i, by have := s.base; show i < ρ'.b + N'; rw [this]; exact Nat.lt_of_lt_of_le hi (Nat.le_add_right _ _), by rw [s.agr i hi]; exact e⟩
theorem loc_step (s : Step (hide ρ hp.N) 0 H ρ' N' H') (inj : InjR ρ' N') : Step ρ hp.N H ρ hp.N H' :=
  ⟨Nat.le_refl _, rfl, fun _ _ => rfl, fun _ i u hi q h => s.hid inj i u (Nat.lt_of_lt_of_le hi (Nat.le_add_right _ _)) q h, fun a u q h => ⟨h.1, (s.keep a u q h).2⟩, fun a u q h => ⟨h.1, (s.keepI a u q h).2⟩⟩
theorem loc_srh (r : SRh Γ ρ F hp H) (s : Step (hide ρ hp.N) 0 H ρ' N' H') (inj : InjR ρ' N') (t : LamX.Tabs Γ.T H') : SRh Γ ρ F hp H' := by
  refine r.off (loc_step s inj) (fun i hi => ?_) t
  obtain ⟨u, q, e⟩ := r.all (ρ.b + i) (Nat.add_lt_add_left hi _)
  have z := s.hid inj (ρ.b + i) u (Nat.add_lt_add_left hi _) (ownK_stab q) e
  exact z.trans e.symm
theorem loc_post {f : Fn} {args : List CV} {Q : VK} (r : SRh Γ ρ F hp H) (p : Post Γ F W σ ρ hp.N H (reV Γ) (loc f args hp) Q) : limL 0 args = true ∧ Post Γ [] W σ (hide ρ hp.N) 0 H (reV Γ) (f args ⟨0, []⟩) Q := by
  unfold loc at p
  split at p
  · rename_i ha
    refine ⟨ha, ?_⟩
    revert p
    generalize f args ⟨0, []⟩ = z
    intro p
    cases z with
    | stuck => exact p
    | exc c fs hp' =>
      intro ρ' H' d s r' q
      have p' : Post Γ F W σ ρ hp.N H (reV Γ) (R.exc c fs hp) Q := p
      refine p' ρ H' d (loc_step s r'.inj) (loc_srh r s r'.inj r'.tab) ?_
      rcases q with q | ⟨a, ds, e1, e2, q⟩
      · exact .inl q
      · exact .inr ⟨a, ds, e1, e2, RepF.congr0 (loc_own s) _ q⟩
    | ok v hp' =>
      intro ρ' H' x s r' q
      have p' : Post Γ F W σ ρ hp.N H (reV Γ) (match frzV hp'.os 0 v with | some v' => R.ok v' hp | none => .stuck) Q := p
      split at p'
      · rename_i v' e
        have rr := loc_srh r s r'.inj r'.tab
        have fz : Rep Γ ρ' 0 H' 0 v' x := frzV_ok r' (Nat.zero_le _) e q
        exact p' ρ H' x (loc_step s r'.inj) rr (Rep.congr0 (fun a ⟨i, hi, e⟩ => ⟨i, by rw [show ρ'.b = ρ.b + hp.N from s.base]; exact hi, by rw [s.agr i hi]; exact e⟩) v' fz)
      · exact p'.elim
  · exact p.elim
theorem Kn.loc {P : Program} {w : World} {K : PySem.W.Frag} {mg : Str → Option Value} {base : Heap} {x : Str} {n : Nat} {f : Fn} (h : Kn P w K mg base Γ k x n f) : Kn P w K mg base Γ k x n (Bl.loc f) := by
  obtain ⟨a, fd, ps, h1, h2, h3, h4⟩ := h
  refine ⟨a, fd, ps, h1.imp fun vs H Q E q => ?_, h2, h3, h4⟩
  obtain ⟨hl, ρ, F, hp, args, r, e, p⟩ := q
  obtain ⟨ha, p'⟩ := loc_post r p
  have e0 : Reps Γ ρ hp.N H 0 args vs := Reps.trunc (Nat.le_refl _) args (.inr ha) e
  have e1 : Reps Γ (Bl.hide ρ hp.N) 0 H 0 args vs := Reps.congr0 (ρ := ρ) (N := hp.N) (ρ' := Bl.hide ρ hp.N) (N' := 0) (fun a o => o) args e0
  exact ⟨hl, Bl.hide ρ hp.N, [], ⟨0, []⟩, args, r.hide, e1, p'⟩
end
end Bl

/-! Own layer, part O: the laws' dice, the laws' frame (plain Lean: no program in sight). -/
namespace Bl
open PySem PySem.Spec PyProof.Rows L2

/-! ### mirrors of the laws' own helpers, as the generator prints them -/
def mDice : MS := sSeq (sIf (tV (eChain vLt vLt (e2 vSub (eC (.int 0)) (eC (.int 10))) (eVar 0) (eC (.int 10)))) (sRet (eLst [eBi bAbs [eVar 0], eC (.int 0), eC (.int 2)])) (sNil)) (sRet (eLst [eVar 0, e2 vAdd (eC (.int 1)) (e2 vMod (eBi bInt [eVar 0]) (eC (.int 1009))), eBi bInt [e2 vGe (eVar 0) (e2 vPow (eC (.int 10)) (eC (.int 18)))]]))
def mRoll : MS := sSeq (sIf (tOr2 (tV (e2 (vEq false) (e2 vIx (eVar 0) (eC (.int 2))) (eC (.int 2)))) (tAnd2 (tV (e2 (vEq false) (e2 vIx (eVar 0) (eC (.int 2))) (eC (.int 1)))) (tV (e2 vGt (e2 vIx (eVar 0) (eC (.int 0))) (eC (.int 0)))))) (sSeq (sAsg (gNm 2) (e2 vMod (eBi bInt [e2 vIx (eVar 0) (eC (.int 0))]) (eVar 1))) (sSeq (sSetL (e2 vDiv (e2 vIx (eVar 0) (eC (.int 0))) (eVar 1)) (eVar 0) (eC (.int 0))) (sRet (eVar 2)))) (sNil)) (sSeq (sSetL (eC (.int 0)) (eVar 0) (eC (.int 2))) (sSeq (sSetL (e2 vMod (eBi bInt [e2 vAdd (e2 vAdd (e2 vMul (e2 vIx (eVar 0) (eC (.int 0))) (eC (.int 48271))) (e2 vMul (e2 vIx (eVar 0) (eC (.int 1))) (eC (.int 69621)))) (eC (.int 11))]) (eC (.int 2147483647))) (eVar 0) (eC (.int 0))) (sSeq (sSetL (e2 vAdd (e2 vIx (eVar 0) (eC (.int 1))) (eC (.int 1))) (eVar 0) (eC (.int 1))) (sRet (e2 vMod (eBi bInt [e2 vAdd (e2 vDiv (e2 vIx (eVar 0) (eC (.int 0))) (eC (.int 7))) (e2 vIx (eVar 0) (eC (.int 0)))]) (eVar 1))))))
def mRounds (f__law_dice : Fn) : MS := sSeq (sAsg (gNm 2) (eSl (eVar 0) none (some (eVar 1)))) (sSeq (sIf (tV (e2 (vEq false) (eVar 2) (eLst []))) (sAsg (gNm 2) (eLst [eC (.int 0)])) (sNil)) (sRet (eComp (mIt (eVar 2) itAny) (gNm 3) (tTrue) (eBi f__law_dice [eVar 3]) [3])))

/-! ### dice -/
def diceL (x : Int) : Int × Int × Int := if -10 < x ∧ x < 10 then (if x < 0 then -x else x, 0, 2) else (x, 1 + x % 1009, if 10 ^ 18 ≤ x then 1 else 0)
def gDice : Fn := fun args hp => match args with
  | [.int x] => .ok (.ref hp.N) (hp.push (.lst [.int (diceL x).1, .int (diceL x).2.1, .int (diceL x).2.2]))
  | _ => .stuck
theorem dice_is (args : List CV) (hp : Hc) : gDice args hp = .stuck ∨ fnM 1 mDice args hp = gDice args hp := by
  match args with
  | [.int x] =>
    refine .inr ?_
    by_cases h1 : -10 < x
    · by_cases h2 : x < 10
      · have e : diceL x = (if x < 0 then -x else x, 0, 2) := if_pos ⟨h1, h2⟩
        unfold gDice
        simp only [e]
        simp [fnM, mDice, sSeq, sIf, RS.of, tV, asB, eChain, e2, vSub, vLt, vI, eC, eVar, R.bind, h1, h2, sRet, eLst, evA, eBi, bAbs, newL, okLen]
      · have e : diceL x = (x, 1 + x % 1009, if 10 ^ 18 ≤ x then 1 else 0) := if_neg fun h => h2 h.2
        unfold gDice
        simp only [e]
        simp [fnM, mDice, sSeq, sIf, RS.of, tV, asB, eChain, e2, vSub, vLt, vI, eC, eVar, R.bind, h1, h2, sNil, sRet, eLst, evA, eBi, bInt, vMod, vIC, cMod, vAdd, vGe, vPow, cPow, newL, okLen]
    · have e : diceL x = (x, 1 + x % 1009, if 10 ^ 18 ≤ x then 1 else 0) := if_neg fun h => h1 h.1
      unfold gDice
      simp only [e]
      simp [fnM, mDice, sSeq, sIf, RS.of, tV, asB, eChain, e2, vSub, vLt, vI, eC, eVar, R.bind, h1, sNil, sRet, eLst, evA, eBi, bInt, vMod, vIC, cMod, vAdd, vGe, vPow, cPow, newL, okLen]
  | [] => exact .inl rfl
  | [.non] => exact .inl rfl
  | [.bl _] => exact .inl rfl
  | [.str _] => exact .inl rfl
  | [.tup _] => exact .inl rfl
  | [.wtp _] => exact .inl rfl
  | [.wdc _] => exact .inl rfl
  | [.lst _] => exact .inl rfl
  | [.dct _ _] => exact .inl rfl
  | [.ins _ _] => exact .inl rfl
  | [.ref _] => exact .inl rfl
  | x :: _ :: _ => cases x <;> exact .inl rfl

/-- what a roll answers, what the dice are behind it -/
def rollV (a b c m : Int) : Int := if c = 2 ∨ (c = 1 ∧ 0 < a) then a % m else ((a * 48271 + b * 69621 + 11) % 2147483647 / 7 + (a * 48271 + b * 69621 + 11) % 2147483647) % m
def rollS (a b c m : Int) : Int × Int × Int := if c = 2 ∨ (c = 1 ∧ 0 < a) then (a / m, b, c) else ((a * 48271 + b * 69621 + 11) % 2147483647, b + 1, 0)
theorem rollV_nn {a b c m : Int} (h : 0 < m) : 0 ≤ rollV a b c m := by
  unfold rollV
  split <;> exact Int.emod_nonneg _ (by omega)
theorem rollV_lt {a b c m : Int} (h : 0 < m) : rollV a b c m < m := by
  unfold rollV
  split <;> exact Int.emod_lt_of_pos _ h
def ix3 (d : Nat) (os : List CO) : Option (Int × Int × Int) := match os[d]? with
  | some (.lst [.int a, .int b, .int c]) => some (a, b, c)
  | _ => none
def gRoll : Fn := fun args hp => match args with
  | [.ref d, .int m] => match ix3 d hp.os with
    | some (a, b, c) => if (decide (0 < m) && decide (m < 1073741824)) = true then .ok (.int (rollV a b c m)) (hp.set d (.lst [.int (rollS a b c m).1, .int (rollS a b c m).2.1, .int (rollS a b c m).2.2])) else .stuck
    | none => .stuck
  | _ => .stuck
theorem roll_eq {d : Nat} {m a b c : Int} {hp : Hc} (e : hp.os[d]? = some (.lst [.int a, .int b, .int c])) (h1 : 0 < m) (h2 : m < 1073741824) :
    fnM 3 mRoll [.ref d, .int m] hp = .ok (.int (rollV a b c m)) (hp.set d (.lst [.int (rollS a b c m).1, .int (rollS a b c m).2.1, .int (rollS a b c m).2.2])) := by
  have hd : d < hp.os.length := (List.getElem?_eq_some_iff.mp e).1
  have eg : hp.os[d] = .lst [.int a, .int b, .int c] := (List.getElem?_eq_some_iff.mp e).2
  have i0 : ∀ x y z : CV, atI [x, y, z] 0 = some x := fun _ _ _ => rfl
  have i1 : ∀ x y z : CV, atI [x, y, z] 1 = some y := fun _ _ _ => rfl
  have i2 : ∀ x y z : CV, atI [x, y, z] 2 = some z := fun _ _ _ => rfl
  have n0 : ixN 3 0 = some 0 := rfl
  have n1 : ixN 3 1 = some 1 := rfl
  have n2 : ixN 3 2 = some 2 := rfl
  by_cases c2 : c = 2
  · subst c2
    have v1 : rollV a b 2 m = a % m := if_pos (.inl rfl)
    have v2 : rollS a b 2 m = (a / m, b, 2) := if_pos (.inl rfl)
    simp only [v1, v2]
    simp [fnM, mRoll, sSeq, sIf, RS.of, tOr2, tV, e2, eVar, eC, R.bind, vIx, seqItems, e, i0, i1, i2, vEq, eqC, eqS, asB, sAsg, eBi, evA, bInt, vMod, vIC, cMod, h1, gNm, sSetL, vDiv, cDiv, h2, n0, n1, n2, limL, limV, sRet]
  · by_cases c1 : c = 1 ∧ 0 < a
    · obtain ⟨rfl, ha⟩ := c1
      have v1 : rollV a b 1 m = a % m := if_pos (.inr ⟨rfl, ha⟩)
      have v2 : rollS a b 1 m = (a / m, b, 1) := if_pos (.inr ⟨rfl, ha⟩)
      simp only [v1, v2]
      simp [fnM, mRoll, sSeq, sIf, RS.of, tOr2, tAnd2, tV, e2, eVar, eC, R.bind, vIx, seqItems, e, i0, i1, i2, vEq, eqC, eqS, asB, vGt, vI, ha, sAsg, eBi, evA, bInt, vMod, vIC, cMod, h1, gNm, sSetL, vDiv, cDiv, h2, n0, n1, n2, limL, limV, sRet]
    · have nc : ¬ (c = 2 ∨ (c = 1 ∧ 0 < a)) := fun h => h.elim c2 c1
      have v1 : rollV a b c m = ((a * 48271 + b * 69621 + 11) % 2147483647 / 7 + (a * 48271 + b * 69621 + 11) % 2147483647) % m := if_neg nc
      have v2 : rollS a b c m = ((a * 48271 + b * 69621 + 11) % 2147483647, b + 1, 0) := if_neg nc
      simp only [v1, v2]
      have t : ∀ env hp', env[0]? = some (some (CV.ref d)) → hp'.os[d]? = some (.lst [.int a, .int b, .int c]) → tOr2 (tV (e2 (vEq false) (e2 vIx (eVar 0) (eC (.int 2))) (eC (.int 2)))) (tAnd2 (tV (e2 (vEq false) (e2 vIx (eVar 0) (eC (.int 2))) (eC (.int 1)))) (tV (e2 vGt (e2 vIx (eVar 0) (eC (.int 0))) (eC (.int 0))))) env hp' = .ok false hp' := by
        intro env hp' e1 e3
        by_cases z1 : c = 1
        · have ha : ¬ 0 < a := fun h => c1 ⟨z1, h⟩
          simp [tOr2, tAnd2, tV, e2, eVar, eC, R.bind, vIx, seqItems, e1, e3, i0, i2, vEq, eqC, eqS, asB, vGt, vI, c2, z1, ha]
        · simp [tOr2, tAnd2, tV, e2, eVar, eC, R.bind, vIx, seqItems, e1, e3, i0, i2, vEq, eqC, eqS, asB, vGt, vI, c2, z1]
      have m1 : cMul a 48271 = true := by simp [cMul]
      have m2 : cMul b 69621 = true := by simp [cMul]
      unfold fnM mRoll sSeq sIf
      simp only [t _ hp (show ([CV.ref d, .int m].map some ++ List.replicate (3 - [CV.ref d, .int m].length) none)[0]? = some (some (CV.ref d)) from rfl) e]
      simp [RS.of, sNil, sSetL, eC, eVar, eg, n2, limL, limV, hd, Hc.set, e2, vIx, seqItems, i0, i1, i2, R.bind, vMod, vIC, cMod, eBi, evA, bInt, vAdd, vMul, m1, m2, n0, n1, sRet, vDiv, cDiv, h1]
theorem roll_is (args : List CV) (hp : Hc) : gRoll args hp = .stuck ∨ fnM 3 mRoll args hp = gRoll args hp := by
  unfold gRoll
  split
  · split
    · rename_i d m _ a b c e
      split
      · rename_i h
        rw [Bool.and_eq_true, decide_eq_true_eq, decide_eq_true_eq] at h
        refine .inr (roll_eq ?_ h.1 h.2)
        unfold ix3 at e
        split at e
        · rename_i e'; cases e; exact e'
        · cases e
      · exact .inl rfl
    · exact .inl rfl
  · exact .inl rfl
/-! ### steps by equations -/
theorem sSeq_nx {a b : MS} {env env1 : En} {hp hp1 : Hc} (h : a env hp = .ok (.nx env1) hp1) : sSeq a b env hp = b env1 hp1 := by
  unfold sSeq; rw [h]
theorem sSeq_rt {a b : MS} {env : En} {v : CV} {hp hp1 : Hc} (h : a env hp = .ok (.rt v) hp1) : sSeq a b env hp = .ok (.rt v) hp1 := by
  unfold sSeq; rw [h]
theorem fnM_rt {n : Nat} {body : MS} {args : List CV} {v : CV} {hp hp1 : Hc} (h : body (args.map some ++ List.replicate (n - args.length) none) hp = .ok (.rt v) hp1) : fnM n body args hp = .ok v hp1 := by
  unfold fnM; rw [h]
theorem sAsg_ok {t : Tgt} {m : M CV} {env env1 : En} {hp hp1 : Hc} {v : CV} (h : m env hp = .ok v hp1) (ht : t.f v env = some env1) : sAsg t m env hp = .ok (.nx env1) hp1 := by
  unfold sAsg RS.of; rw [h]; show (match t.f v env with | some env' => RS.ok (.nx env') hp1 | none => .stuck) = _; rw [ht]
theorem bind_ok {α β : Type} {r : R α} {f : α → Hc → R β} {a : α} {hp : Hc} (h : r = .ok a hp) : r.bind f = f a hp := by rw [h]; rfl

/-! ### the rounds -/
theorem cut1 (x : CV) (r : List CV) : cutC (x :: r) none (some 1) = [x] := by
  unfold cutC
  have e1 : HT.sIx (x :: r).length 0 none = 0 := rfl
  have e2 : HT.sIx (x :: r).length (x :: r).length (some 1) = 1 := by
    rw [show (1 : Int) = ((1 : Nat) : Int) from rfl, HT.sIx_nat, List.length_cons]
    omega
  rw [e1, e2]
  rfl
/-- what the laws begin with: one dice in a list of its own -/
structure Begun (j d : Nat) (a b c : Int) (hp : Hc) : Prop where
  row : hp.os[j]? = some (.lst [.ref d])
  dice : hp.os[d]? = some (.lst [.int a, .int b, .int c])
  ne : j ≠ d
  fl : hp.fl = 0
theorem rounds_begin (ns : List Int) : ∃ j d a b c hp, fnM 4 (mRounds gDice) [.lst (ns.map .int), .int 1] ⟨0, []⟩ = .ok (.ref j) hp ∧ Begun j d a b c hp := by
  cases ns with
  | nil => exact ⟨3, 4, _, _, _, _, rfl, ⟨rfl, rfl, by decide, rfl⟩⟩
  | cons x r =>
    have e : vSl (.lst ((x :: r).map .int)) none (some 1) ⟨0, []⟩ = .ok (.ref 0) ⟨0, [.lst [.int x]]⟩ := by
      show newL (cutC (.int x :: r.map .int) none (some 1)) ⟨0, []⟩ = _
      rw [cut1]
      rfl
    have e2 : (eSl (eVar 0) none (some (eVar 1))) [some (.lst ((x :: r).map .int)), some (.int 1), none, none] ⟨0, []⟩ = .ok (.ref 0) ⟨0, [.lst [.int x]]⟩ := e
    have e3 : fnM 4 (mRounds gDice) [.lst ((x :: r).map .int), .int 1] ⟨0, []⟩ = .ok (.ref 2) ⟨0, [.lst [.int x], .lst [], .lst [.ref 3], .lst [.int (diceL x).1, .int (diceL x).2.1, .int (diceL x).2.2]]⟩ := by
      refine fnM_rt ((sSeq_nx (sAsg_ok e2 rfl)).trans ?_)
      rfl
    exact ⟨2, 3, _, _, _, _, e3, ⟨rfl, rfl, by decide, rfl⟩⟩

/-! ### the frame of a law: for dice in _law_rounds(script, 1): ..; return True -/
def Keeps (d : Nat) (hp hp' : Hc) : Prop := hp'.fl = 0 ∧ ∀ i, i ≠ d → i < hp.N → hp'.os[i]? = hp.os[i]?
theorem law_frame {n : Nat} {f : Fn} {body : MS} (hf : ∀ ns : List Int, ∃ j d a b c hp, f [.lst (ns.map .int), .int 1] ⟨0, []⟩ = .ok (.ref j) hp ∧ Begun j d a b c hp)
    (hb : ∀ (s : CV) (j d : Nat) (a b c : Int) (hp : Hc), Begun j d a b c hp → ∃ env2 hp2, body (some s :: some (.ref d) :: List.replicate n none) hp = .ok (.nx env2) hp2 ∧ Keeps d hp hp2) (ns : List Int) :
    ∃ hp', fnM (n + 2) (sSeq (sFor (mIt (eBi f [eVar 0, eC (.int 1)]) itAny) (gNm 1) body) (sRet (eC (.bl true)))) [.lst (ns.map .int)] ⟨0, []⟩ = .ok (.bl true) hp' := by
  obtain ⟨j, d, a, b, c, hp, e1, bg⟩ := hf ns
  obtain ⟨env2, hp2, e2, kp⟩ := hb (.lst (ns.map .int)) j d a b c hp bg
  have hj : j < hp.N := (List.getElem?_eq_some_iff.mp bg.row).1
  have e3 : hp2.os[j]? = some (.lst [.ref d]) := by rw [kp.2 j bg.ne hj]; exact bg.row
  have i1 : mIt (eBi f [eVar 0, eC (.int 1)]) itAny (some (.lst (ns.map .int)) :: none :: List.replicate n none) ⟨0, []⟩ = .ok (live j 1) hp := by
    have q : eBi f [eVar 0, eC (.int 1)] (some (.lst (ns.map .int)) :: none :: List.replicate n none) ⟨0, []⟩ = .ok (.ref j) hp := e1
    unfold mIt
    rw [q]
    show (match itSeq (.ref j) hp with | some it => R.ok it hp | none => R.stuck) = _
    unfold itSeq
    simp only [bg.row]
    rfl
  have l1 : forN (live j 1).next (gNm 1) body 2 0 (some (.lst (ns.map .int)) :: none :: List.replicate n none) hp = .ok (.nx env2) hp2 := by
    have n1 : (live j 1).next 0 hp = some (some (.ref d)) := by
      show (match hp.os[j]? with | some (.lst xs) => some xs[0]? | _ => none) = _
      rw [bg.row]; rfl
    have n2 : (live j 1).next 1 hp2 = some none := by
      show (match hp2.os[j]? with | some (.lst xs) => some xs[1]? | _ => none) = _
      rw [e3]; rfl
    unfold forN
    rw [n1]
    show (match body (some (.lst (ns.map .int)) :: some (.ref d) :: List.replicate n none) hp with | .stuck => RS.stuck | .ok f hp2 => _) = _
    rw [e2]
    show forN (live j 1).next (gNm 1) body 1 1 env2 hp2 = _
    unfold forN
    rw [n2]
  refine ⟨hp2, ?_⟩
  have l2 : sFor (mIt (eBi f [eVar 0, eC (.int 1)]) itAny) (gNm 1) body (some (.lst (ns.map .int)) :: none :: List.replicate n none) ⟨0, []⟩ = .ok (.nx env2) hp2 := by
    unfold sFor
    rw [i1]
    exact l1
  exact fnM_rt ((sSeq_nx l2).trans rfl)
theorem Keeps.refl {d : Nat} {hp : Hc} (h : hp.fl = 0) : Keeps d hp hp := ⟨h, fun _ _ _ => rfl⟩
theorem Keeps.trans {d : Nat} {hp hp1 hp2 : Hc} (h : Keeps d hp hp1) (hn : hp.N ≤ hp1.N) (h' : Keeps d hp1 hp2) : Keeps d hp hp2 :=
  ⟨h'.1, fun i n l => (h'.2 i n (Nat.lt_of_lt_of_le l hn)).trans (h.2 i n l)⟩
/-- a roll's answer lies below its many; the dice stay dice -/
theorem Begun.roll {j d : Nat} {a b c m : Int} {hp : Hc} (g : Begun j d a b c hp) (h1 : 0 < m) (h2 : m < 1073741824) :
    ∃ r a' b' c' hp', gRoll [.ref d, .int m] hp = .ok (.int r) hp' ∧ 0 ≤ r ∧ r < m ∧ Begun j d a' b' c' hp' ∧ hp'.N = hp.N ∧ Keeps d hp hp' := by
  have hd : d < hp.os.length := (List.getElem?_eq_some_iff.mp g.dice).1
  have e : ix3 d hp.os = some (a, b, c) := by unfold ix3; rw [g.dice]
  refine ⟨rollV a b c m, (rollS a b c m).1, (rollS a b c m).2.1, (rollS a b c m).2.2, hp.set d (.lst [.int (rollS a b c m).1, .int (rollS a b c m).2.1, .int (rollS a b c m).2.2]), ?_, rollV_nn h1, rollV_lt h1, ⟨?_, ?_, g.ne, g.fl⟩, Hc.set_N .., g.fl, fun i hi _ => ?_⟩
  · unfold gRoll
    simp only [e]
    rw [if_pos (by rw [decide_eq_true h1, decide_eq_true h2]; rfl)]
  · show (hp.os.set d _)[j]? = _
    rw [List.getElem?_set_ne g.ne.symm]; exact g.row
  · show (hp.os.set d _)[d]? = _
    rw [List.getElem?_set_self hd]
  · show (hp.os.set d _)[i]? = _
    rw [List.getElem?_set_ne hi.symm]
theorem Begun.push {j d : Nat} {a b c : Int} {hp : Hc} (g : Begun j d a b c hp) (o : CO) : Begun j d a b c (hp.push o) ∧ hp.N ≤ (hp.push o).N ∧ Keeps d hp (hp.push o) := by
  have up : ∀ i, i < hp.os.length → (hp.push o).os[i]? = hp.os[i]? := fun i hi => by
    show (hp.os ++ [o])[i]? = _
    rw [List.getElem?_append_left hi]
  refine ⟨⟨?_, ?_, g.ne, g.fl⟩, by rw [Hc.push_N]; exact Nat.le_succ _, g.fl, fun i _ hi => up i hi⟩
  · rw [up j (List.getElem?_eq_some_iff.mp g.row).1]; exact g.row
  · rw [up d (List.getElem?_eq_some_iff.mp g.dice).1]; exact g.dice
theorem forN_nil {next : Nat → Hc → Option (Option CV)} {tg : Tgt} {body : MS} {m i : Nat} {env : En} {hp : Hc} (h : next i hp = some none) : forN next tg body (m + 1) i env hp = .ok (.nx env) hp := by
  unfold forN; rw [h]
theorem forN_nx {next : Nat → Hc → Option (Option CV)} {tg : Tgt} {body : MS} {m i : Nat} {env env1 env2 : En} {hp hp2 : Hc} {x : CV} (h : next i hp = some (some x)) (ht : tg.f x env = some env1) (hb : body env1 hp = .ok (.nx env2) hp2) :
    forN next tg body (m + 1) i env hp = forN next tg body m (i + 1) env2 hp2 := by
  conv => lhs; unfold forN
  rw [h]
  simp only [ht, hb]
/-- rows that no turn changes -/
theorem for_snap {xs : List CV} {tg : Tgt} {body : MS} {hp : Hc} (P : En → Prop) (h : ∀ x ∈ xs, ∀ env, P env → ∃ env1 env2, tg.f x env = some env1 ∧ body env1 hp = .ok (.nx env2) hp ∧ P env2) :
    ∀ (m i : Nat) (env : En), P env → xs.length + 1 ≤ m + i → i ≤ xs.length → ∃ env', P env' ∧ forN (snap xs).next tg body m i env hp = .ok (.nx env') hp := by
  intro m
  induction m with
  | zero => intro i env _ h1 h2; omega
  | succ m ih =>
    intro i env p h1 h2
    cases e : xs[i]? with
    | none => exact ⟨env, p, forN_nil (show some xs[i]? = _ by rw [e])⟩
    | some x =>
      have hl := (List.getElem?_eq_some_iff.mp e)
      obtain ⟨env1, env2, q1, q2, p2⟩ := h x (hl.2 ▸ List.getElem_mem hl.1) env p
      obtain ⟨env', p', q'⟩ := ih (i + 1) env2 p2 (by omega) hl.1
      exact ⟨env', p', (forN_nx (show some xs[i]? = _ by rw [e]) q1 q2).trans q'⟩
theorem atI_nn {α : Type} {xs : List α} {i : Int} (h : 0 ≤ i) (hl : i < xs.length) : atI xs i = xs[i.toNat]? := by
  unfold atI ixN
  simp [h, hl]
theorem atI_mem {α : Type} {xs : List α} {i : Int} (h : 0 ≤ i) (hl : i < xs.length) : ∃ x ∈ xs, atI xs i = some x := by
  rw [atI_nn h hl]
  have hi : i.toNat < xs.length := by omega
  exact ⟨xs[i.toNat], List.getElem_mem hi, List.getElem?_eq_getElem hi⟩
/-! ### answers of calls over a heap of their own -/
theorem loc_bl {f : Fn} {args : List CV} {b : Bool} {hp' : Hc} (h : f args ⟨0, []⟩ = .ok (.bl b) hp') (ha : limL 0 args = true) (hp : Hc) : loc f args hp = .ok (.bl b) hp := by
  unfold loc
  rw [if_pos ha, h]
  rfl
theorem loc_int {f : Fn} {args : List CV} {b : Int} {hp' : Hc} (h : f args ⟨0, []⟩ = .ok (.int b) hp') (ha : limL 0 args = true) (hp : Hc) : loc f args hp = .ok (.int b) hp := by
  unfold loc
  rw [if_pos ha, h]
  rfl
/-- two functions answer alike -/
def sameR (a b : R CV) : Bool := match a, b with
  | .ok (.bl x) _, .ok (.bl y) _ => x == y
  | .ok (.int x) _, .ok (.int y) _ => decide (x = y)
  | _, _ => false
theorem same_loc {f g : Fn} {as bs : List CV} (h : sameR (f as ⟨0, []⟩) (g bs ⟨0, []⟩) = true) (ha : limL 0 as = true) (hb : limL 0 bs = true) (hp : Hc) :
    ∃ v, loc f as hp = .ok v hp ∧ loc g bs hp = .ok v hp ∧ ∀ os, eqC os v v = some true := by
  revert h
  cases e1 : f as ⟨0, []⟩ with
  | stuck => intro h; cases h
  | exc _ _ _ => intro h; cases h
  | ok x h1 =>
    cases e2 : g bs ⟨0, []⟩ with
    | stuck => intro h; cases x <;> cases h
    | exc _ _ _ => intro h; cases x <;> cases h
    | ok y h2 =>
      intro h
      cases x <;> cases y <;> first | (cases h; done) | skip
      · rename_i p q
        have e : p = q := eq_of_beq h
        subst e
        exact ⟨_, loc_bl e1 ha hp, loc_bl e2 hb hp, fun os => by cases p <;> rfl⟩
      · rename_i p q
        have e : p = q := of_decide_eq_true h
        subst e
        exact ⟨_, loc_int e1 ha hp, loc_int e2 hb hp, fun os => by simp [eqC, eqS]⟩
end Bl

/-! Own layer, part P: a law's end over the head's data. -/
namespace Bl
open PySem PySem.Spec PyProof.Rows L2
/-- the law's def, by its clean function: at every script it answers True -/
def rh0 : Rh := ⟨0, fun _ => 0⟩
theorem law_sp {Γ : Gx} {f : Fn} (hT : Γ.T = []) (hf : ∀ ns : List Int, ∃ hp', f [.lst (ns.map .int)] ⟨0, []⟩ = .ok (.bl true) hp') {H : Hp} {a : Addr} {ns : List Int} (hS : SqL Γ.K H a (ns.map V.int)) :
    spF Γ 1 f [.ref a] H (fun v _ => v = .bl true) fun _ _ _ => False := by
  obtain ⟨hp', e⟩ := hf ns
  have allI : ∀ ms : List Int, Reps Γ rh0 0 H 0 (ms.map CV.int) (ms.map V.int) := fun ms => by
    induction ms with
    | nil => unfold Reps; rfl
    | cons m r ih =>
      show Reps Γ rh0 0 H 0 (CV.int m :: r.map CV.int) (V.int m :: r.map V.int)
      unfold Reps
      exact ⟨_, _, rfl, repI, ih⟩
  refine ⟨rfl, rh0, [], ⟨0, []⟩, [.lst (ns.map .int)], srh_nil (by rw [hT]; intro p hp; cases hp) rfl, reps1 ?_, ?_⟩
  · show Rep Γ rh0 0 H 0 (.lst (ns.map .int)) (.ref a)
    unfold Rep
    refine ⟨a, _, rfl, ?_, allI ns⟩
    rcases hS with h | h
    · exact .inl ⟨fun ⟨i, hi, _⟩ => absurd hi (Nat.not_lt_zero i), h⟩
    · exact .inr h
  · rw [e]
    intro ρ' H' x _ _ h
    have h' : Rep Γ ρ' hp'.N H' hp'.N (.bl true) x := h
    unfold Rep at h'
    exact h'
/-- such a law walks: F gives the written part and the def's promise -/
theorem law_walk {l : PySem.W.OpenLaw} {n k : Nat} {q : Program} {loose : List Str} {XP : (Str → Option Value) → Heap → Prop} {YP : World → Heap → Prop} {d : DefRec} {x : Str}
    (hn : l.most = some n) (hz : n ≤ sizeLine) (hdf : d.params.defaults = []) (hr : Room k callerA)
    (F : ∀ (w : World) (mg : Str → Option Value) (fa : Addr) (h : Heap), YP w h → h.Ns mainGlobals mg → mg d.name = some (.ref fa) →
      ∃ (K : PySem.W.Frag) (fd : FuncData) (Γ : Gx) (f : Fn), K.In h ∧ Γ.K = K ∧ Γ.T = [] ∧ (∀ (s : Shared) (u : Value), BindsTo s fd ⟨[u], []⟩ [(x, u)]) ∧ (∀ ns : List Int, ∃ hp', f [.lst (ns.map .int)] ⟨0, []⟩ = .ok (.bl true) hp') ∧
        ∀ base : Heap, K.In base → base.Ns mainGlobals mg → FnOk l.prog w K mg base (L2.CX l.prog w) k fa fd [x] (spF Γ 1 f)) :
    PySem.W.WalkO q loose XP YP l.row.toRowW d [] (fun f vs => PySem.call f vs) := by
  refine Att.attach_call hn hdf fun w s₀ s₁ mg mb fa o pm cd doc a vs ns G Y ho hd hcd hmg hobj hints hlen hg => ?_
  obtain ⟨K, fd, Γ, f, kin, eK, eT, hb, hf, hF⟩ := F w mg fa _ Y G.T.g hmg
  subst eK
  refine law_call kin G.T.g G.T.b G.T.builtins G.T.nolimit hg hobj hints (Nat.le_trans hlen hz) hr hF hb (fun H _ hS => law_sp eT hf hS) fun H e s' hc => ?_
  obtain ⟨_, _, _, _, _, _, _, _, _, _, _, _, z⟩ := hc
  exact z
end Bl

/-! Own layer, part Q: instances: fields, methods, making; own exceptions: raise, try. -/
namespace Bl
open PySem PySem.Spec PyProof.Rows L2

/-! ### field names -/
def fnOf (names : List Str) (i : Nat) : Str := match names[i]? with
  | some s => s
  | none => ⟨#[0, i]⟩
def fnGood (names : List Str) : Bool := decide names.Nodup && names.all fun s => decide (s.cps[0]? ≠ some 0)
theorem fnOf_inj {names : List Str} (h : fnGood names = true) : ∀ i j, fnOf names i = fnOf names j → i = j := by
  unfold fnGood at h
  rw [Bool.and_eq_true, decide_eq_true_eq, List.all_eq_true] at h
  obtain ⟨nd, nz⟩ := h
  intro i j e
  unfold fnOf at e
  cases ei : names[i]? with
  | some s =>
    cases ej : names[j]? with
    | some t =>
      rw [ei, ej] at e
      have e' : s = t := e
      subst e'
      obtain ⟨hi, qi⟩ := List.getElem?_eq_some_iff.mp ei
      obtain ⟨hj, qj⟩ := List.getElem?_eq_some_iff.mp ej
      exact (List.getElem_inj nd).mp (qi.trans qj.symm)
    | none =>
      rw [ei, ej] at e
      have e' : s = ⟨#[0, j]⟩ := e
      have z := of_decide_eq_true (nz s (List.mem_of_getElem? ei))
      rw [e'] at z
      exact absurd rfl z
  | none =>
    cases ej : names[j]? with
    | some t =>
      rw [ei, ej] at e
      have e' : (⟨#[0, i]⟩ : Str) = t := e
      have z := of_decide_eq_true (nz t (List.mem_of_getElem? ej))
      rw [← e'] at z
      exact absurd rfl z
    | none =>
      rw [ei, ej] at e
      have e' : (⟨#[0, i]⟩ : Str) = ⟨#[0, j]⟩ := e
      have q : (#[0, i] : Array Nat) = #[0, j] := congrArg Str.cps e'
      have q2 : ([0, i] : List Nat) = [0, j] := congrArg Array.toList q
      simpa using q2
theorem fnOf_ne {names : List Str} {m : Str} (h : names.all (fun s => decide (s ≠ m)) = true) (h0 : m.cps[0]? ≠ some 0) : ∀ k, fnOf names k ≠ m := by
  intro k e
  unfold fnOf at e
  cases ek : names[k]? with
  | some s =>
    rw [ek] at e
    have e' : s = m := e
    exact (of_decide_eq_true (List.all_eq_true.mp h s (List.mem_of_getElem? ek))) e'
  | none =>
    rw [ek] at e
    have e' : (⟨#[0, k]⟩ : Str) = m := e
    rw [← e'] at h0
    exact h0 rfl
/-- what is known of the classes: tab[c]: the fields of class c -/
structure ClT (K : PySem.W.Frag) (Γ : Gx) (tab : List (List Nat)) : Prop where
  inj : ∀ i j, Γ.fn i = Γ.fn j → i = j
  cls : ∀ c fs, tab[c]? = some fs → fs ≠ [] → Cls K (Γ.cl c) ∧ ∀ k ∈ fs, NoAttr K (Γ.cl c) (Γ.fn k)
def hasF (tab : List (List Nat)) (c k : Nat) : Bool := match tab[c]? with
  | some fs => fs.any fun j => Nat.beq k j
  | none => false
theorem ClT.has {K : PySem.W.Frag} {Γ : Gx} {tab : List (List Nat)} (T : ClT K Γ tab) {c k : Nat} (h : hasF tab c k = true) : Cls K (Γ.cl c) ∧ NoAttr K (Γ.cl c) (Γ.fn k) := by
  unfold hasF at h
  split at h
  · rename_i fs e
    obtain ⟨j, hj, q⟩ := List.any_eq_true.mp h
    have : k = j := Nat.eq_of_beq_eq_true q
    subst this
    obtain ⟨h1, h2⟩ := T.cls c fs e fun z => by rw [z] at hj; cases hj
    exact ⟨h1, h2 k hj⟩
  · cases h
def lookF (k : Nat) : List (Nat × CV) → Option CV
  | [] => none
  | (j, x) :: r => if Nat.beq k j = true then some x else lookF k r
def putC (k : Nat) (v : CV) : List (Nat × CV) → List (Nat × CV)
  | [] => [(k, v)]
  | (j, x) :: r => if Nat.beq k j = true then (j, v) :: r else (j, x) :: putC k v r
def fldsOf (hp : Hc) : CV → Option (Nat × List (Nat × CV))
  | .ins c fs => some (c, fs)
  | .ref n => match hp.os[n]? with
    | some (.ins c fs) => some (c, fs)
    | _ => none
  | _ => none
section
variable {X : Cx} {Γ : Gx} {W : WX} {k : Nat} {F : List Nat} {ρ : Rh} {N : Nat} {H : Hp} {σ : L2.St} {env : En} {hp : Hc} {D : Ends} {pos : Pos}
theorem beq_ne {i j : Nat} (h : ¬ Nat.beq i j = true) : i ≠ j := fun e => h (by rw [e]; exact Nat.beq_refl j)
theorem RepF.look (inj : ∀ i j, Γ.fn i = Γ.fn j → i = j) {m q : Nat} {x : CV} : ∀ {fs : List (Nat × CV)} {ds : List (Str × V)}, RepF Γ ρ N H m fs ds → lookF q fs = some x → ∃ v, ds.lookup (Γ.fn q) = some v ∧ Rep Γ ρ N H m x v
  | [], _, _, e => by cases e
  | (j, y) :: fs, ds, h, e => by
    unfold RepF at h
    obtain ⟨v, r, rfl, h1, h2⟩ := h
    unfold lookF at e
    by_cases hj : Nat.beq q j = true
    · rw [if_pos hj] at e
      cases e
      have : q = j := Nat.eq_of_beq_eq_true hj
      subst this
      exact ⟨v, by simp [List.lookup], h1⟩
    · rw [if_neg hj] at e
      obtain ⟨w, e1, h3⟩ := RepF.look inj h2 e
      have ne : (Γ.fn q == Γ.fn j) = false := by
        rw [beq_eq_false_iff_ne]
        exact fun z => beq_ne hj (inj _ _ z)
      exact ⟨w, by rw [List.lookup_cons, ne]; exact e1, h3⟩
theorem RepF.put (inj : ∀ i j, Γ.fn i = Γ.fn j → i = j) {m q : Nat} {x : CV} {v : V} (hx : Rep Γ ρ N H m x v) : ∀ {fs : List (Nat × CV)} {ds : List (Str × V)}, RepF Γ ρ N H m fs ds → RepF Γ ρ N H m (putC q x fs) (putF (Γ.fn q) v ds)
  | [], ds, h => by
    unfold RepF at h; subst h
    show RepF Γ ρ N H m [(q, x)] [(Γ.fn q, v)]
    unfold RepF; exact ⟨v, [], rfl, hx, by unfold RepF; rfl⟩
  | (j, y) :: fs, ds, h => by
    unfold RepF at h
    obtain ⟨w, r, rfl, h1, h2⟩ := h
    unfold putC putF
    by_cases hj : Nat.beq q j = true
    · have : q = j := Nat.eq_of_beq_eq_true hj
      subst this
      rw [if_pos hj, if_pos rfl]
      unfold RepF; exact ⟨v, r, rfl, hx, h2⟩
    · rw [if_neg hj, if_neg fun z => beq_ne hj (inj _ _ z.symm)]
      unfold RepF; exact ⟨w, _, rfl, h1, RepF.put inj hx h2⟩
theorem RepF.len {m : Nat} : ∀ {fs : List (Nat × CV)} {ds : List (Str × V)}, RepF Γ ρ N H m fs ds → fs.length = ds.length
  | [], _, h => by unfold RepF at h; subst h; rfl
  | (j, y) :: fs, ds, h => by
    unfold RepF at h
    obtain ⟨w, r, rfl, _, h2⟩ := h
    rw [List.length_cons, List.length_cons, RepF.len h2]
theorem RepF.none {m : Nat} {f : Str} (hf : ∀ k, Γ.fn k ≠ f) : ∀ {fs : List (Nat × CV)} {ds : List (Str × V)}, RepF Γ ρ N H m fs ds → ds.lookup f = none
  | [], _, h => by unfold RepF at h; subst h; rfl
  | (j, y) :: fs, ds, h => by
    unfold RepF at h
    obtain ⟨w, r, rfl, _, h2⟩ := h
    rw [List.lookup_cons, show (f == Γ.fn j) = false by rw [beq_eq_false_iff_ne]; exact fun z => hf j z.symm]
    exact RepF.none hf h2
theorem fldsOf_ok {x : CV} {v : V} {c : Nat} {fs : List (Nat × CV)} (r : SRh Γ ρ F hp H) (h : Rep Γ ρ hp.N H hp.N x v) (e : fldsOf hp x = some (c, fs)) : ∃ a dx ds, v = .ref a ∧ H a = some (.ins (Γ.cl c) dx ds) ∧ RepF Γ ρ hp.N H hp.N fs ds := by
  unfold fldsOf at e
  split at e
  · cases e
    unfold Rep at h
    obtain ⟨a, dx, ds, rfl, h1, h2⟩ := h
    exact ⟨a, dx, ds, rfl, h1.2, h2.mono Step.refl (Nat.zero_le _) (Nat.zero_le _)⟩
  · split at e
    · rename_i he
      cases e
      unfold Rep at h
      obtain ⟨_, rfl⟩ := h
      obtain ⟨dx, ds, h1, h2⟩ := r.obj _ _ he
      exact ⟨_, dx, ds, rfl, h1, h2⟩
    · cases e
  · cases e
/-- e.f -/
def eFld (tab : List (List Nat)) (q : Nat) (m : M CV) : M CV := fun env hp => (m env hp).bind fun x hp => match fldsOf hp x with
  | some (c, fs) => if hasF tab c q = true then (match lookF q fs with
    | some v => .ok v hp
    | none => .stuck) else .stuck
  | none => .stuck
theorem sim_fld [S : Sx X Γ W k] {tab : List (List Nat)} {q : Nat} {e : Expr} {f : Str} {m : M CV} (T : ClT X.K Γ tab) (hf : Γ.fn q = f) (h : SimE X Γ W e m) (hb : attributeBase e f X.env (eval e X.env) = eval e X.env := by rfl) : SimE X Γ W (.Attribute e f pos) (eFld tab q m) :=
  pe_imp (pe_fld h hb) fun σ H Q z => by
    obtain ⟨ρ, F, hp, env, r0, e0, p⟩ := z
    refine rd_mono (rd_next (re := reV Γ) r0 e0 p) fun x H1 ⟨ρ1, hp1, v, s1, r1, e1, h1, p1⟩ => ?_
    split at p1
    · rename_i c fs ef
      split at p1
      · rename_i hh
        split at p1
        · rename_i u eu
          obtain ⟨a, dx, ds, rfl, g1, g2⟩ := fldsOf_ok r1 h1 ef
          obtain ⟨w, l, g3⟩ := g2.look T.inj eu
          obtain ⟨c1, c2⟩ := T.has hh
          subst hf
          exact ⟨a, _, dx, ds, w, rfl, g1, c1, c2, l, p1.ok r1 g3⟩
        · exact p1.elim
      · exact p1.elim
    · exact p1.elim
/-- e.f = value -/
def sFldC (tab : List (List Nat)) (q : Nat) (mo mv : M CV) : MS := fun env hp => RS.of (mv env hp) env fun v hp => RS.of (mo env hp) env fun o hp => match o with
  | .ref n => match hp.os[n]? with
    | some (.ins c fs) => if hasF tab c q = true then (if (decide (n < hp.fl) && !limF (n + 1) (putC q v fs)) = true then .stuck else if decide (fs.length < 1000) = true then .ok (.nx env) (hp.set n (.ins c (putC q v fs))) else .stuck) else .stuck
    | _ => .stuck
  | _ => .stuck
theorem sim_setFld [S : Sx X Γ W k] {tab : List (List Nat)} {q : Nat} {o value : Expr} {f : Str} {mo mv : M CV} {pos' : Pos} (T : ClT X.K Γ tab) (hf : Γ.fn q = f) (ho : SimE X Γ W o mo) (hv : SimE X Γ W value mv)
    (hs : swapsWith value (some (.Attribute o f pos')) pos.line X.env = pure false := by rfl) : SimS X Γ W (.Assign [.Attribute o f pos'] value pos) (sFldC tab q mo mv) :=
  ps_imp (ps_fld ho hv hs) fun D σ H z => by
    obtain ⟨F, env, z⟩ := rdS_first (re := reV Γ) z
    refine rd_mono z fun y H1 ⟨ρ1, hp1, cy, r1, e1, g1, p1⟩ => ?_
    refine rd_mono (rdS_next (re := reV Γ) r1 e1 p1) fun x H2 ⟨ρ2, hp2, co, s2, r2, e2, g2, p2⟩ => ?_
    have gy : Rep Γ ρ2 hp2.N H2 hp2.N cy y := g1.mono s2 (Nat.le_refl _) s2.le
    cases co with
    | ref n =>
      have gx : Rep Γ ρ2 hp2.N H2 hp2.N (.ref n) x := g2
      unfold Rep at gx
      obtain ⟨hn, rfl⟩ := gx
      have p3 : PostS Γ F W ρ2 hp2.N H2 (match hp2.os[n]? with
        | some (.ins c fs) => if hasF tab c q = true then (if (decide (n < hp2.fl) && !limF (n + 1) (putC q cy fs)) = true then .stuck else if decide (fs.length < 1000) = true then .ok (.nx env) (hp2.set n (.ins c (putC q cy fs))) else .stuck) else .stuck
        | _ => .stuck) D := p2
      split at p3
      · rename_i c fs he
        split at p3
        · rename_i hh
          split at p3
          · exact p3.elim
          · rename_i hc
            split at p3
            · rename_i hl
              obtain ⟨dx, ds, a1, a2⟩ := r2.obj _ _ he
              obtain ⟨c1, c2⟩ := T.has hh
              subst hf
              refine ⟨ρ2 n, _, dx, ds, rfl, a1, c1, c2, by rw [← a2.len]; exact of_decide_eq_true hl, ?_⟩
              have st : Step ρ2 hp2.N H2 ρ2 hp2.N (upd H2 (ρ2 n) (.ins (Γ.cl c) dx (putF (Γ.fn q) y ds))) := step_write hn
              have nw : RepF Γ ρ2 hp2.N (upd H2 (ρ2 n) (.ins (Γ.cl c) dx (putF (Γ.fn q) y ds))) hp2.N (putC q cy fs) (putF (Γ.fn q) y ds) := (a2.put T.inj gy).mono st (Nat.le_refl _) (Nat.le_refl _)
              have w := r2.write (c := .ins c (putC q cy fs)) (o := .ins (Γ.cl c) dx (putF (Γ.fn q) y ds)) hn (fun hl => by
                by_cases hz : limF (n + 1) (putC q cy fs) = true
                · exact hz
                · exact absurd (by rw [decide_eq_true hl, Bool.not_eq_true] at *; simp [hz]) hc) (fun f hf hq => limO_mono hf _ hq) ⟨dx, _, upd_same, nw⟩
              exact p3 ρ2 _ σ (by rw [Hc.set_N]; exact st) w (by rw [Hc.set_N]; exact e2.mono st)
            · exact p3.elim
        · exact p3.elim
      · exact p3.elim
    | _ => exact p2.elim
/-! ### methods -/
/-- the class c has a method m; f: its clean function, the object first -/
def KnM (P : Program) (w : World) (K : PySem.W.Frag) (mg : Str → Option Value) (base : Heap) (Γ : Gx) (k : Nat) (c : Nat) (m : Str) (n : Nat) (f : Fn) : Prop :=
  ∃ g fd ps, FnOk P w K mg base (L2.CX P w) k g fd ps (spF Γ n f) ∧ Meth K (Γ.cl c) m g ∧ Binds K fd ps [] ∧ Cls K (Γ.cl c) ∧ ∀ q, Γ.fn q ≠ m
section
variable {P : Program} {w : World} {K : PySem.W.Frag} {mg : Str → Option Value} {base : Heap} {c n : Nat} {m : Str} {f g : Fn}
theorem KnM.mono {k' : Nat} (h : KnM P w K mg base Γ k c m n f) (le : k ≤ k') : KnM P w K mg base Γ k' c m n f :=
  let ⟨g, fd, ps, h1, h2⟩ := h
  ⟨g, fd, ps, h1.mono le, h2⟩
theorem KnM.imp (h : KnM P w K mg base Γ k c m n f) (hfg : ∀ args hp, g args hp = .stuck ∨ f args hp = g args hp) : KnM P w K mg base Γ k c m n g := by
  obtain ⟨a, fd, ps, h1, h2⟩ := h
  refine ⟨a, fd, ps, h1.imp fun vs H Q E q => ?_, h2⟩
  obtain ⟨hl, ρ, F, hp, args, r, e, p⟩ := q
  refine ⟨hl, ρ, F, hp, args, r, e, ?_⟩
  rcases hfg args hp with z | z
  · rw [z] at p; exact p.elim
  · rw [z]; exact p
theorem KnM.scop (h : KnM P w K mg base Γ k c m n f) : KnM P w K mg base Γ k c m n (Bl.scop f) := by
  obtain ⟨a, fd, ps, h1, h2⟩ := h
  refine ⟨a, fd, ps, h1.imp fun vs H Q E q => ?_, h2⟩
  obtain ⟨hl, ρ, F, hp, args, r, e, p⟩ := q
  exact ⟨hl, ρ, hp.N :: F, ⟨hp.N, hp.os⟩, args, r.into, e, scop_post r p⟩
end
/-- o.m(e, ..) -/
def eMeth (c : Nat) (f : Fn) (mo : M CV) (ms : List (M CV)) : M CV := fun env hp => (mo env hp).bind fun x hp => match fldsOf hp x with
  | some (c', _) => if Nat.beq c' c = true then (evA ms env hp).bind fun as hp => f (x :: as) hp else .stuck
  | none => .stuck
def tMethW (C : Addr) (m : Str) (sp : Sp) (W : WX) (ta : TE) (t : TA) : TE := fun σ H Q => ta σ H fun x H1 => ∃ a dx fs, x = .ref a ∧ H1 a = some (.ins C dx fs) ∧ fs.lookup m = none ∧ t σ H1 fun vs H2 => sp (x :: vs) H2 Q (WE W σ)
theorem pe_methW [S : Sx X Γ W k] {kf : Nat} {C g : Addr} {m : Str} {fd : FuncData} {ps : List Str} {sp : Sp} {o e : Expr} {es : List Expr} {ta : TE} {t : TA} {apos : Pos} {pl : Sem Bool} (he : PE X o ta) (c : Cls X.K C) (hm : Meth X.K C m g) (F : FnOk X.prog X.w X.K X.mg X.base (L2.CX X.prog X.w) kf g fd ps sp) (le : kf ≤ k) (hb : Binds X.K fd ps []) (ha : PA X (e :: es) t)
    (hst : starEach (e :: es) X.env = (false, eval e X.env) :: starEach es X.env) (hpl : (backTo pos (starEach es X.env)).any (·.1) = false)
    (ht : eval (.Call (.Attribute o m apos) (e :: es) [] pos) X.env = (do
      let ov ← eval o X.env
      standAt apos.atName
      let (f, first) ← holding [ov] (getMethod ov m pl)
      callWith pos f first (backTo pos (starEach (e :: es) X.env)) (backToKw pos (keywordEach [] X.env)))) : PE X (.Call (.Attribute o m apos) (e :: es) [] pos) (tMethW C m sp W ta t) := by
  refine ⟨fun pins s σ H Q I h => PySem.W.methodCall_KW (pl := pl) (thn (he.run pins s σ H _ I h) fun u s1 ⟨x, H1, I1, rx, a, dx, fs, ex, ea, l, q⟩ => ?_) ht⟩
  subst ex
  cases rx
  refine getmeth_ok I1 ea c hm l (PySem.W.callWith_K (first := [.ref a]) (h₀ := X.base) I.ok.mod.kin hm.kp (thn (ha.run pos pins s1 σ H1 _ I1 q) fun us s2 ⟨vs, H2, I2, r, q2⟩ => ⟨I2.kIn, ?_⟩) hst hpl)
  exact run_fnS (us := .ref a :: us) (vs := .ref a :: vs) F (S.room.mono le) hb (passAt S.tk σ) I2 (.cons rfl r) q2
theorem pe_methW0 [S : Sx X Γ W k] {kf : Nat} {C g : Addr} {m : Str} {fd : FuncData} {ps : List Str} {sp : Sp} {o : Expr} {ta : TE} {apos : Pos} {pl : Sem Bool} (he : PE X o ta) (c : Cls X.K C) (hm : Meth X.K C m g) (F : FnOk X.prog X.w X.K X.mg X.base (L2.CX X.prog X.w) kf g fd ps sp) (le : kf ≤ k) (hb : Binds X.K fd ps [])
    (ht : eval (.Call (.Attribute o m apos) [] [] pos) X.env = (do
      let ov ← eval o X.env
      standAt apos.atName
      let (f, first) ← holding [ov] (getMethod ov m pl)
      callWith pos f first (backTo pos (starEach [] X.env)) (backToKw pos (keywordEach [] X.env)))) : PE X (.Call (.Attribute o m apos) [] [] pos) (tMethW C m sp W ta tNil) := by
  refine ⟨fun pins s σ H Q I h => PySem.W.methodCall_KW (pl := pl) (thn (he.run pins s σ H _ I h) fun u s1 ⟨x, H1, I1, rx, a, dx, fs, ex, ea, l, q⟩ => ?_) ht⟩
  subst ex
  cases rx
  exact getmeth_ok I1 ea c hm l (PySem.W.callWith_K0 (first := [.ref a]) I1.kIn hm.kp (run_fnS (us := [.ref a]) (vs := [.ref a]) F (S.room.mono le) hb (passAt S.tk σ) I1 (.cons rfl .nil) q))
theorem R.bind_exc {α β : Type} {c : Nat} {fs : List (Nat × CV)} {hp : Hc} {f : α → Hc → R β} : (R.exc c fs hp : R α).bind f = .exc c fs hp := rfl
/-- args, then the callee -/
theorem args_call {n : Nat} {f : Fn} {ms : List (M CV)} {Q : VK} {x : CV} {vx : V} (hn : ms.length + 1 = n) (r0 : SRh Γ ρ F hp H) (e0 : SRe Γ ρ hp.N H σ env) (hx : Rep Γ ρ hp.N H hp.N x vx)
    (p : Post Γ F W σ ρ hp.N H (reV Γ) ((evA ms env hp).bind fun as hp => f (x :: as) hp) Q) : rd Γ W (reA Γ) (evA ms) σ H fun vs H2 => spF Γ n f (vx :: vs) H2 Q (WE W σ) := by
  refine ⟨ρ, F, hp, env, r0, e0, ?_⟩
  cases z : evA ms env hp with
  | stuck => rw [z] at p; exact p
  | exc c fs hp' => rw [z] at p; exact p
  | ok vs hp' =>
    have hl := evA_len z
    rw [z] at p
    intro ρ' H' xs s r e
    have ea : Reps Γ ρ' hp'.N H' hp'.N (x :: vs) (vx :: xs) := by
      unfold Reps
      exact ⟨vx, xs, rfl, hx.mono s (Nat.le_refl _) s.le, e⟩
    exact ⟨by rw [List.length_cons, ← Reps.len e, hl, hn], ρ', F, hp', x :: vs, r, ea, post_wk (fun _ _ _ h => h) (Post.step s (show Post Γ F W σ ρ hp.N H (reV Γ) (f (x :: vs) hp') Q from p))⟩
theorem sim_meth [S : Sx X Γ W k] {kf n c : Nat} {m : Str} {o e : Expr} {es : List Expr} {f : Fn} {mo : M CV} {ms : List (M CV)} {apos : Pos} {pl : Sem Bool} (h : KnM X.prog X.w X.K X.mg X.base Γ kf c m n f) (le : kf ≤ k) (ho : SimE X Γ W o mo) (ha : SimA X Γ W (e :: es) (evA ms)) (hn : ms.length + 1 = n := by rfl)
    (hst : starEach (e :: es) X.env = (false, eval e X.env) :: starEach es X.env := by rfl) (hpl : (backTo pos (starEach es X.env)).any (·.1) = false := by rfl)
    (ht : eval (.Call (.Attribute o m apos) (e :: es) [] pos) X.env = (do
      let ov ← eval o X.env
      standAt apos.atName
      let (f, first) ← holding [ov] (getMethod ov m pl)
      callWith pos f first (backTo pos (starEach (e :: es) X.env)) (backToKw pos (keywordEach [] X.env))) := by rfl) : SimE X Γ W (.Call (.Attribute o m apos) (e :: es) [] pos) (eMeth c f mo ms) := by
  obtain ⟨g, fd, ps, h1, h2, h3, h4, h5⟩ := h
  refine pe_imp (pe_methW ho h4 h2 h1 le h3 ha hst hpl ht) fun σ H Q z => ?_
  obtain ⟨ρ, F, hp, env, r0, e0, p⟩ := z
  refine rd_mono (rd_next (re := reV Γ) r0 e0 p) fun x H1 ⟨ρ1, hp1, v, s1, r1, e1, g1, p1⟩ => ?_
  split at p1
  · rename_i c' fs ef
    split at p1
    · rename_i hc
      obtain ⟨a, dx, ds, rfl, a1, a2⟩ := fldsOf_ok r1 g1 ef
      rw [Nat.eq_of_beq_eq_true hc] at a1
      exact ⟨a, dx, ds, rfl, a1, a2.none h5, args_call hn r1 e1 g1 p1⟩
    · exact p1.elim
  · exact p1.elim
def eMeth0 (c : Nat) (f : Fn) (mo : M CV) : M CV := fun env hp => (mo env hp).bind fun x hp => match fldsOf hp x with
  | some (c', _) => if Nat.beq c' c = true then f [x] hp else .stuck
  | none => .stuck
theorem sim_meth0 [S : Sx X Γ W k] {kf c : Nat} {m : Str} {o : Expr} {f : Fn} {mo : M CV} {apos : Pos} {pl : Sem Bool} (h : KnM X.prog X.w X.K X.mg X.base Γ kf c m 1 f) (le : kf ≤ k) (ho : SimE X Γ W o mo)
    (ht : eval (.Call (.Attribute o m apos) [] [] pos) X.env = (do
      let ov ← eval o X.env
      standAt apos.atName
      let (f, first) ← holding [ov] (getMethod ov m pl)
      callWith pos f first (backTo pos (starEach [] X.env)) (backToKw pos (keywordEach [] X.env))) := by rfl) : SimE X Γ W (.Call (.Attribute o m apos) [] [] pos) (eMeth0 c f mo) := by
  obtain ⟨g, fd, ps, h1, h2, h3, h4, h5⟩ := h
  refine pe_imp (pe_methW0 ho h4 h2 h1 le h3 ht) fun σ H Q z => ?_
  obtain ⟨ρ, F, hp, env, r0, e0, p⟩ := z
  refine rd_mono (rd_next (re := reV Γ) r0 e0 p) fun x H1 ⟨ρ1, hp1, v, s1, r1, e1, g1, p1⟩ => ?_
  split at p1
  · rename_i c' fs ef
    split at p1
    · rename_i hc
      obtain ⟨a, dx, ds, rfl, a1, a2⟩ := fldsOf_ok r1 g1 ef
      rw [Nat.eq_of_beq_eq_true hc] at a1
      exact ⟨a, dx, ds, rfl, a1, a2.none h5, rfl, ρ1, F, hp1, [v], r1, reps1 g1, post_wk (fun _ _ _ h => h) p1⟩
    · exact p1.elim
  · exact p1.elim
/-- one of two readings -/
def eAlt (a b : M CV) : M CV := fun env hp => match a env hp with
  | .stuck => b env hp
  | r => r
theorem sim_alt {e : Expr} {a b : M CV} (ha : SimE X Γ W e a) (hb : SimE X Γ W e b) : SimE X Γ W e (eAlt a b) := ⟨fun pins s σ H Q I z => by
  obtain ⟨ρ, F, hp, env, r0, e0, p⟩ := z
  unfold eAlt at p
  cases h : a env hp with
  | stuck => rw [h] at p; exact hb.run pins s σ H Q I ⟨ρ, F, hp, env, r0, e0, p⟩
  | ok v hp' => rw [h] at p; exact ha.run pins s σ H Q I ⟨ρ, F, hp, env, r0, e0, by rw [h]; exact p⟩
  | exc c fs hp' => rw [h] at p; exact ha.run pins s σ H Q I ⟨ρ, F, hp, env, r0, e0, by rw [h]; exact p⟩⟩
end
end Bl

/-! Own layer, part R: instances made; scopes of expressions; own exceptions: raise, try. -/
namespace Bl
open PySem PySem.Spec PyProof.Rows L2
section
variable {X : Cx} {Γ : Gx} {W : WX} {k : Nat} {F : List Nat} {ρ : Rh} {N : Nat} {H : Hp} {σ : L2.St} {env : En} {hp : Hc} {D : Ends} {pos : Pos}
/-- a class that is made by __init__; f: __init__'s clean function, the object first -/
def KnC (P : Program) (w : World) (K : PySem.W.Frag) (mg : Str → Option Value) (base : Heap) (Γ : Gx) (k : Nat) (x : Str) (c n : Nat) (f : Fn) : Prop :=
  ∃ g fd ps, FnOk P w K mg base (L2.CX P w) k g fd ps (spF Γ n f) ∧ Mk K (Γ.cl c) g ∧ mg x = some (.ref (Γ.cl c)) ∧ Binds K fd ps []
section
variable {P : Program} {w : World} {K : PySem.W.Frag} {mg : Str → Option Value} {base : Heap} {x : Str} {c n : Nat} {f g : Fn}
theorem KnC.mono {k' : Nat} (h : KnC P w K mg base Γ k x c n f) (le : k ≤ k') : KnC P w K mg base Γ k' x c n f :=
  let ⟨g, fd, ps, h1, h2⟩ := h
  ⟨g, fd, ps, h1.mono le, h2⟩
end
/-- a new instance, its fields by __init__ -/
def mkI (c : Nat) (f : Fn) (as : List CV) (hp : Hc) : R CV := match f (.ref hp.N :: as) (hp.push (.ins c [])) with
  | .ok v hp' => match v with
    | .non => .ok (.ref hp.N) hp'
    | _ => .stuck
  | .exc c fs hp' => .exc c fs hp'
  | .stuck => .stuck
def eMake (c : Nat) (f : Fn) (ms : List (M CV)) : M CV := fun env hp => (evA ms env hp).bind (mkI c f)
def tMakeW (C : Addr) (sp : Sp) (W : WX) (t : TA) : TE := fun σ H Q => t σ H fun vs H1 => ∀ x dx, H1 x = none → H1 dx = none → dx ≠ x → sp (.ref x :: vs) (upd (upd H1 dx (.own x)) x (.ins C dx [])) (fun v H2 => v = .non ∧ Q (.ref x) H2) (WE W σ)
theorem run_makeW [S : Sx X Γ W k] {kf : Nat} {C f : Addr} {fd : FuncData} {ps : List Str} {sp : Sp} {pins : List (Addr × Obj)} {σ : L2.St} {H : Hp} {s : Shared} {Q : VK} {us : List Value} {vs : List V} (M : Mk X.K C f) (F : FnOk X.prog X.w X.K X.mg X.base (L2.CX X.prog X.w) kf f fd ps sp) (hr : Room (kf + 1) X.A) (hb : Binds X.K fd ps [])
    (I : Inv X pins σ H s) (r : Vals vs us) (h : ∀ x dx, H x = none → H dx = none → dx ≠ x → sp (.ref x :: vs) (upd (upd H dx (.own x)) x (.ins C dx [])) (fun v H2 => v = .non ∧ Q (.ref x) H2) (WE W σ)) :
    wpAny (model X.prog X.w) X.A (call (.ref C) us) (EP X pins σ Q) X.xe s := by
  have hq := h (s.heap.objs.size + 1) s.heap.objs.size (I.hok.fresh (Nat.le_succ _)) (I.hok.fresh (Nat.le_refl _)) (Nat.ne_of_lt (Nat.lt_succ_self _))
  have J := Inv.made (C := C) I
  have rr : Vals (V.ref (s.heap.objs.size + 1) :: vs) (Value.ref (s.heap.objs.size + 1) :: us) := .cons rfl r
  have hl : (Value.ref (s.heap.objs.size + 1) :: us).length = ps.length := by
    rw [← rr.length]; exact F.len _ _ _ _ hq
  have bnd := hb _ (Value.ref (s.heap.objs.size + 1) :: us) J.kIn (by rw [List.append_nil]; exact hl)
  rw [List.append_nil] at bnd
  refine wpAny_call (make_map (f := f) I.kIn M.makes M.init (beq_iff_eq.mp M.fn) (codeAny_mono (F.run _ X.stack _ _ ⟨Value.ref (s.heap.objs.size + 1) :: us, []⟩ (Value.ref (s.heap.objs.size + 1) :: us) _ _ (WE W σ) (hr.make C us [])
    (J.env0.make C us []) bnd rr hq) fun r s' hq' => ?_))
  cases r with
  | error e => exact passAt S.tk σ pins _ _ e s' J hq'
  | ok fl =>
    cases fl with
    | ret u =>
      obtain ⟨v, H', I3, rv, ev, q3⟩ := J.after hq'
      subst ev
      exact ⟨rv, ⟨V.ref (s.heap.objs.size + 1), H', I3, rfl, q3⟩⟩
    | next => exact False.elim hq'
    | brk => exact False.elim hq'
    | cont => exact False.elim hq'
theorem pe_makeW [S : Sx X Γ W k] {kf : Nat} {C f : Addr} {fd : FuncData} {ps : List Str} {sp : Sp} {x : Str} {p : Pos} {e : Expr} {es : List Expr} {t : TA} (M : Mk X.K C f) (F : FnOk X.prog X.w X.K X.mg X.base (L2.CX X.prog X.w) kf f fd ps sp) (le : kf + 1 ≤ k) (hg : Gl X x) (hm : X.mg x = some (.ref C)) (hb : Binds X.K fd ps []) (ha : PA X (e :: es) t)
    (hdb : (x == ("__debug__" : Str)) = false) (he : starEach (e :: es) X.env = (false, eval e X.env) :: starEach es X.env) (hpl : (backTo pos (starEach es X.env)).any (·.1) = false) : PE X (.Call (.Name x p) (e :: es) [] pos) (tMakeW C sp W t) :=
  ⟨fun pins s σ H Q I h => wpAny_Call_Name_kw (ld_glob I hg hm (PySem.W.callWith_K (h₀ := X.base) I.ok.mod.kin M.kp (thn (ha.run pos pins s σ H _ I h) fun us s1 ⟨vs, H1, I1, r, q⟩ => ⟨I1.kIn, run_makeW M F (S.room.mono le) hb I1 r q⟩) he hpl) hdb)⟩
theorem pe_makeW0 [S : Sx X Γ W k] {kf : Nat} {C f : Addr} {fd : FuncData} {ps : List Str} {sp : Sp} {x : Str} {p : Pos} (M : Mk X.K C f) (F : FnOk X.prog X.w X.K X.mg X.base (L2.CX X.prog X.w) kf f fd ps sp) (le : kf + 1 ≤ k) (hg : Gl X x) (hm : X.mg x = some (.ref C)) (hb : Binds X.K fd ps [])
    (hdb : (x == ("__debug__" : Str)) = false) : PE X (.Call (.Name x p) [] [] pos) (tMakeW C sp W tNil) :=
  ⟨fun pins s σ H Q I h => wpAny_Call_Name_kw (ld_glob I hg hm (PySem.W.callWith_K0 I.kIn M.kp (run_makeW (us := []) M F (S.room.mono le) hb I .nil h)) hdb)⟩
/-- the clean side of making -/
theorem make_post {c n : Nat} {f : Fn} {as : List CV} {vs : List V} {Q : VK} {x dx : Addr} (hn : vs.length + 1 = n) (r : SRh Γ ρ F hp H) (e : Reps Γ ρ hp.N H hp.N as vs) (p : Post Γ F W σ ρ hp.N H (reV Γ) (mkI c f as hp) Q) (hx : H x = none) (hd : H dx = none) (ne : dx ≠ x) :
    spF Γ n f (.ref x :: vs) (upd (upd H dx (.own x)) x (.ins (Γ.cl c) dx [])) (fun v H2 => v = .non ∧ Q (.ref x) H2) (WE W σ) := by
  have s1 : Step ρ hp.N H ρ hp.N (upd H dx (.own x)) := step_new hd
  have r1 : SRh Γ ρ F hp (upd H dx (.own x)) := r.new hd
  have hx1 : upd H dx (.own x) x = none := by rw [upd_ne (Ne.symm ne)]; exact hx
  have s2 : Step ρ hp.N (upd H dx (.own x)) (ext ρ hp.N x) (hp.push (.ins c [])).N (upd (upd H dx (.own x)) x (.ins (Γ.cl c) dx [])) := by
    rw [Hc.push_N]; exact step_alloc hx1
  have r2 : SRh Γ (ext ρ hp.N x) F (hp.push (.ins c [])) (upd (upd H dx (.own x)) x (.ins (Γ.cl c) dx [])) := r1.alloc hx1 ⟨dx, [], upd_same, by unfold RepF; rfl⟩
  have e2 : Reps Γ (ext ρ hp.N x) (hp.push (.ins c [])).N (upd (upd H dx (.own x)) x (.ins (Γ.cl c) dx [])) (hp.push (.ins c [])).N (.ref hp.N :: as) (.ref x :: vs) := by
    unfold Reps
    refine ⟨_, vs, rfl, ?_, e.mono (s1.trans s2) (Nat.le_refl _) (s1.trans s2).le⟩
    rw [Hc.push_N]; exact rep_ref
  refine ⟨by rw [List.length_cons]; exact hn, ext ρ hp.N x, F, hp.push (.ins c []), _, r2, e2, ?_⟩
  have p' := Post.step (s1.trans s2) p
  unfold mkI at p'
  revert p'
  generalize f (.ref hp.N :: as) (hp.push (.ins c [])) = z
  intro p'
  cases z with
  | stuck => exact p'
  | exc c fs hp' => exact post_wk (fun _ _ _ h => h) p'
  | ok v hp' =>
    cases v with
    | non =>
      intro ρ' H' y s r' q
      have p2 : Post Γ F W σ (ext ρ hp.N x) (hp.push (.ins c [])).N (upd (upd H dx (.own x)) x (.ins (Γ.cl c) dx [])) (reV Γ) (R.ok (.ref hp.N) hp') Q := p'
      have q' : Rep Γ ρ' hp'.N H' hp'.N .non y := q
      unfold Rep at q'
      refine ⟨q', p2 ρ' H' (.ref x) s r' ?_⟩
      show Rep Γ ρ' hp'.N H' hp'.N (.ref hp.N) (.ref x)
      have lt : hp.N < (hp.push (.ins c [])).N := by rw [Hc.push_N]; exact Nat.lt_succ_self _
      unfold Rep
      exact ⟨Nat.lt_of_lt_of_le lt s.le, by rw [s.agree _ lt, ext_at]⟩
    | _ => exact p'.elim
theorem sim_make [S : Sx X Γ W k] {kf n c : Nat} {x : Str} {p : Pos} {e : Expr} {es : List Expr} {f : Fn} {ms : List (M CV)} (h : KnC X.prog X.w X.K X.mg X.base Γ kf x c n f) (le : kf + 1 ≤ k) (ha : SimA X Γ W (e :: es) (evA ms)) (hn : ms.length + 1 = n := by rfl) (hg : Gl X x := by rfl)
    (hdb : (x == ("__debug__" : Str)) = false := by decide) (he : starEach (e :: es) X.env = (false, eval e X.env) :: starEach es X.env := by rfl) (hpl : (backTo pos (starEach es X.env)).any (·.1) = false := by rfl) :
    SimE X Γ W (.Call (.Name x p) (e :: es) [] pos) (eMake c f ms) := by
  obtain ⟨g, fd, ps, h1, h2, h3, h4⟩ := h
  refine pe_imp (pe_makeW h2 h1 le hg h3 h4 ha hdb he hpl) fun σ H Q z => ?_
  obtain ⟨ρ, F, hp, env, r0, e0, p⟩ := z
  refine ⟨ρ, F, hp, env, r0, e0, ?_⟩
  unfold eMake at p
  cases z : evA ms env hp with
  | stuck => rw [z] at p; exact p
  | exc c fs hp' => rw [z] at p; exact p
  | ok vs hp' =>
    have hl := evA_len z
    rw [z] at p
    intro ρ' H' xs s r e y dy hy hd ne
    exact make_post (by rw [← Reps.len e, hl, hn]) r e (Post.step s (show Post Γ F W σ ρ hp.N H (reV Γ) (mkI c f vs hp') Q from p)) hy hd ne
theorem sim_make0 [S : Sx X Γ W k] {kf c : Nat} {x : Str} {p : Pos} {f : Fn} (h : KnC X.prog X.w X.K X.mg X.base Γ kf x c 1 f) (le : kf + 1 ≤ k) (hg : Gl X x := by rfl)
    (hdb : (x == ("__debug__" : Str)) = false := by decide) : SimE X Γ W (.Call (.Name x p) [] [] pos) (eMake c f []) := by
  obtain ⟨g, fd, ps, h1, h2, h3, h4⟩ := h
  refine pe_imp (pe_makeW0 h2 h1 le hg h3 h4 hdb) fun σ H Q z => ?_
  obtain ⟨ρ, F, hp, env, r0, e0, p⟩ := z
  exact fun y dy hy hd ne => make_post rfl r0 (by unfold Reps; rfl) p hy hd ne
/-! ### an expression in a scope of its own: its value frozen -/
def scopM (m : M CV) : M CV := fun env hp => scop (fun _ hp => m env hp) [] hp
theorem sim_scop {e : Expr} {m : M CV} (h : SimE X Γ W e m) : SimE X Γ W e (scopM m) := pe_imp h fun σ H Q z => by
  obtain ⟨ρ, F, hp, env, r0, e0, p⟩ := z
  exact ⟨ρ, hp.N :: F, ⟨hp.N, hp.os⟩, env, r0.into, e0, scop_post (f := fun _ hp => m env hp) (args := []) r0 p⟩
/-! ### raise -/
structure ExF (K : PySem.W.Frag) (mg : Str → Option Value) (Γ : Gx) (x : Str) (c : Nat) : Prop where
  gl : mg x = some (.ref (Γ.cl c))
  ex : PySem.W.excIn K (Γ.cl c) He.veBase "ValueError.__new__" = true
  kp : PySem.W.keepIn K (.ref (Γ.cl c)) = true
  sb : PySem.W.subIn K (.ref (Γ.cl c)) (.type "BaseException") = some true
  ty : PySem.W.typeIn K (.ref (Γ.cl c)) = some (.type "type")
def sRaise (c : Nat) : MS := fun env hp => .ok (.ex c [] env) hp
theorem sim_raise [S : Sx X Γ W k] {c : Nat} {x m : Str} {j : Nat} {p p2 pos2 : Pos} (h : ExF X.K X.mg Γ x c) (hg : Gl X x := by rfl) (hdb : (x == ("__debug__" : Str)) = false := by decide) :
    SimS X Γ W (.Raise (some (.Call (.Name x p) [.Constant (.str m) j p2] [] pos)) none pos2) (sRaise c) :=
  ps_imp (ps_raise S.calm S.tk (pmk_own PySem.F.excBase_ValueError h.ex h.gl h.kp (raises_own h.sb h.ty) hg hdb)) fun D σ H z => by
    obtain ⟨ρ, F, hp, env, r, e, p⟩ := z
    exact p ρ H σ none Step.refl r (.inl ⟨rfl, rfl⟩) e
/-! ### try .. except C: .. -/
def goH (xm : Nat → Nat → Option Bool) : List (Nat × MS) → Nat → List (Nat × CV) → MS
  | [], c, fs => fun env hp => .ok (.ex c fs env) hp
  | (d, s) :: r, c, fs => fun env hp => match xm c d with
    | some true => (match s env hp with
      | .ok (.ex _ _ _) _ => .stuck
      | q => q)
    | some false => goH xm r c fs env hp
    | none => .stuck
def sTry (xm : Nat → Nat → Option Bool) (b : MS) (hs : List (Nat × MS)) : MS := fun env hp => match b env hp with
  | .ok (.ex c fs env1) hp1 => goH xm hs c fs env1 hp1
  | q => q
def XmOk (K : PySem.W.Frag) (Γ : Gx) (xm : Nat → Nat → Option Bool) : Prop := ∀ c d b, xm c d = some b → PySem.W.exmOne K (.ref (Γ.cl c)) (.ref (Γ.cl d)) = some b
inductive HdC (X : Cx) (Γ : Gx) : List ExceptHandler → List (Nat × MS) → Prop
  | nil : HdC X Γ [] []
  | cons {x : Str} {c : Nat} {s : MS} {b₀ : Stmt} {suite : List Stmt} {np pos' : Pos} {hds : List ExceptHandler} {l : List (Nat × MS)} (hg : Gl X x) (hdb : (x == ("__debug__" : Str)) = false) (hm : X.mg x = some (.ref (Γ.cl c)))
      (hsu : ∀ (a : Addr) (oe : Obj) (cls : Value) (d : Option Addr) (pn : List (Addr × Obj)), Zc cls d oe → (∃ vs, oe.data = .fields vs) → SimSs (X.suite a ((a, oe) :: pn)) Γ W0 (b₀ :: suite) s) (r : HdC X Γ hds l) :
      HdC X Γ (.ExceptHandler (some (.Name x np)) none (b₀ :: suite) pos' :: hds) ((c, s) :: l)
def hdL (Γ : Gx) (l : List (Nat × MS)) : List (Value × (Addr → Value → Option Addr → TS)) := l.map fun q => (.ref (Γ.cl q.1), fun _ _ _ => rdS Γ W0 q.2)
theorem HdC.ok {hds : List ExceptHandler} {l : List (Nat × MS)} (h : HdC X Γ hds l) : HdsOk X hds (hdL Γ l) := by
  induction h with
  | nil => exact .nil
  | cons hg hdb hm hsu _ ih => exact .cons ⟨hg, hdb, .inl hm⟩ (fun a oe cls d pn hz hf => hsu a oe cls d pn hz hf) ih
theorem postS_w0 {r : RS} {ρ : Rh} {N : Nat} {H : Hp} (h : PostS Γ F W ρ N H (match r with | .ok (.ex _ _ _) _ => .stuck | q => q) D) : PostS Γ F W0 ρ N H r D := by
  cases r with
  | stuck => exact h
  | ok f hp' =>
    cases f with
    | ex c fs e => exact h.elim
    | nx e => exact h
    | rt v => exact h
    | bk e => exact h
    | ct e => exact h
theorem goH_ok {xm : Nat → Nat → Option Bool} {K : PySem.W.Frag} (xk : XmOk K Γ xm) {c : Nat} {fs : List (Nat × CV)} {d : Option Addr} : ∀ {l : List (Nat × MS)} {env : En} {hp : Hc} {ρ : Rh} {H : Hp} {σ : L2.St}, SRh Γ ρ F hp H → ExcR Γ ρ hp.N H fs d → SRe Γ ρ hp.N H σ env →
    PostS Γ F W ρ hp.N H (goH xm l c fs env hp) D → wMany K W D (hdL Γ l) (.ref (Γ.cl c)) d σ H
  | [], env, hp, ρ, H, σ, r, q, e, p => p ρ H σ d Step.refl r q e
  | (cd, s) :: l, env, hp, ρ, H, σ, r, q, e, p => by
    have p' : PostS Γ F W ρ hp.N H (match xm c cd with
      | some true => (match s env hp with
        | .ok (.ex _ _ _) _ => .stuck
        | q => q)
      | some false => goH xm l c fs env hp
      | none => .stuck) D := p
    cases hx : xm c cd with
    | none => rw [hx] at p'; exact p'.elim
    | some b =>
      rw [hx] at p'
      refine ⟨b, xk _ _ _ hx, fun hb a _ => ?_, fun hb => ?_⟩
      · subst hb
        exact ⟨ρ, F, hp, env, r, e, postS_w0 p'⟩
      · subst hb
        exact goH_ok xk r q e p'
theorem sim_try [S : Sx X Γ W k] {body : List Stmt} {h₀ : ExceptHandler} {hds : List ExceptHandler} {l : List (Nat × MS)} {b : MS} {xm : Nat → Nat → Option Bool} (xk : XmOk X.K Γ xm)
    (hb : ∀ (W' : WX) (pn : List (Addr × Obj)) (xe : Value → Shared → Prop), Sx (X.tr pn xe) Γ W' k → PassesOwn (model X.prog X.w) X.A X.env xe → SimSs (X.tr pn xe) Γ W' body b) (hh : HdC X Γ (h₀ :: hds) l)
    (hs : X.stack = X.env :: X.outer := by rfl) (hf : X.env.frame = some X.env.locals := by rfl) : SimS X Γ W (.Try body (h₀ :: hds) [] [] pos) (sTry xm b l) :=
  ps_imp (ps_try_many hs hf S.tk (tb := fun W' => rdS Γ W' b) (fun W' pn xe tk po => hb W' pn xe ⟨S.K, S.calm, S.nd, S.room, tk⟩ po) hh.ok) fun D σ H z => by
    obtain ⟨ρ, F, hp, env, r, e, p⟩ := z
    refine ⟨ρ, F, hp, env, r, e, ?_⟩
    unfold sTry at p
    revert p
    generalize b env hp = w
    intro p
    cases w with
    | stuck => exact p
    | ok f hp' =>
      cases f with
      | nx e => exact p
      | rt v => exact p
      | bk e => exact p
      | ct e => exact p
      | ex c fs env1 => exact fun ρ' H' σ' d s r' q e' => goH_ok xk r' q e' (PostS.step s p)
end
end Bl

/-! Own layer, part S: told(lambda: ..), several except clauses that each return a text. -/
namespace Bl
open PySem PySem.Spec PyProof.Rows L2 LamX
section
variable {X : Cx} {Γ : Gx} {W : WX} {k : Nat} {F : List Nat} {ρ : Rh} {N : Nat} {H : Hp} {σ : L2.St} {env : En} {hp : Hc} {D : Ends} {pos : Pos}
def toldR (xm : Nat → Nat → Option Bool) : List (Nat × List Nat) → Nat → Hc → R CV
  | [], _, _ => .stuck
  | (d, s) :: r, c, hp => match xm c d with
    | some true => .ok (.str s) hp
    | some false => toldR xm r c hp
    | none => .stuck
def eTold (xm : Nat → Nat → Option Bool) (hs : List (Nat × List Nat)) (m : M CV) : M CV := fun env hp => match m env hp with
  | .exc c _ hp' => toldR xm hs c hp'
  | r => r
/-- the clauses' readings -/
def retL (Γ : Gx) (hs : List (Nat × List Nat)) : List (Value × (Addr → Value → Option Addr → TS)) := hs.map fun q => (.ref (Γ.cl q.1), fun _ _ _ => tRet (tC (.str (sOf q.2))))
def endsQ (Q : VK) : Ends := { nx := fun _ H' => Q .non H', rt := Q }
def echQ (K : PySem.W.Frag) (Γ : Gx) (hs : List (Nat × List Nat)) (Q : VK) : XK := fun cls d H' => ∀ σ' : L2.St, wMany K (fun _ _ _ _ => False) (endsQ Q) (retL Γ hs) cls d σ' H'
def TToldM (K : PySem.W.Frag) (Γ : Gx) (hs : List (Nat × List Nat)) : (XK → Hp → VK → Prop) → Hp → VK → Prop := fun tl H Q => tl (echQ K Γ hs Q) H Q
theorem told_givesM {Ng : List Str} {x a q : Str} {sg : Scope} {g : Addr} {cdg : Value} {h₀ : ExceptHandler} {hds : List ExceptHandler} {hs : List (Nat × List Nat)} {p1 p2 p3 p8 : Pos}
    (hh : ∀ (s : Shared) (H : Hp), HdsOk (cxOf C8.CX0 X.prog X.w X.K X.mg X.base Ng x sg g cdg X.A X.stack s H C8.E0).nox (h₀ :: hds) (retL Γ hs)) (h0 : ∀ f : Addr, (L2.start Ng [V.ref f])[0]? = some (some (V.ref f))) :
    GivesTo X Ng x sg g cdg [.Try [.Return (some (.Call (.Name a p1) [] [] p2)) p3] (h₀ :: hds) [] [] p8] a q (TToldM X.K Γ hs) := by
  intro f c' s H Q tl act hc h
  refine ⟨_, pss_one (ps_try_many (X := (cxOf C8.CX0 X.prog X.w X.K X.mg X.base Ng x sg g cdg X.A X.stack s H C8.E0).nox)
      (tb := fun W D σ H => ∃ E : XK, (∀ cls d σ' H', E cls d H' → W cls d σ' H') ∧ σ[0]? = some (some (.ref f)) ∧ H c' = some (CodeO c' q) ∧ tl E H D.rt)
      (Wout := fun _ _ _ _ => False) rfl rfl L2.takes0 (fun W pn xe tk _ => ?_) (hh s H)), ?_⟩
  · refine ⟨fun pins s' σ H' D I h' => ?_⟩
    obtain ⟨E, hW, h1, h2, h3⟩ := h'
    exact (pss_one (ps_ret (pos := p3) (act W pn xe E p1 p2 tk hW))).run pins s' σ H' D I ⟨h1, h2, h3⟩
  · exact ⟨echQ X.K Γ hs Q, fun cls d σ' H' z => z σ', h0 f, hc, h⟩
theorem toldR_ok {xm : Nat → Nat → Option Bool} {K : PySem.W.Frag} (xk : XmOk K Γ xm) {c : Nat} {d : Option Addr} {Q : VK} {σ σ' : L2.St} : ∀ {hs : List (Nat × List Nat)}, SRh Γ ρ F hp H → Post Γ F W σ ρ hp.N H (reV Γ) (toldR xm hs c hp) Q →
    wMany K (fun _ _ _ _ => False) (endsQ Q) (retL Γ hs) (.ref (Γ.cl c)) d σ' H
  | [], r, p => p.elim
  | (cd, s) :: l, r, p => by
    have p' : Post Γ F W σ ρ hp.N H (reV Γ) (match xm c cd with
      | some true => .ok (.str s) hp
      | some false => toldR xm l c hp
      | none => .stuck) Q := p
    cases hx : xm c cd with
    | none => rw [hx] at p'; exact p'.elim
    | some b =>
      rw [hx] at p'
      refine ⟨b, xk _ _ _ hx, fun hb a _ => ?_, fun hb => ?_⟩
      · subst hb
        exact p'.ok r repS
      · subst hb
        exact toldR_ok xk r p'
theorem step_extN {H1 : Hp} (e : ExtN H H1) : Step ρ N H ρ N H1 := by
  have nt : ∀ u : HO, Bl.stab u = true → ∀ ps, u ≠ .tbl ps := fun u h ps z => by rw [z] at h; cases h
  refine ⟨Nat.le_refl _, rfl, fun _ _ => rfl, fun _ i u _ q h => e _ u h (nt u q), fun a u q h => ⟨h.1, ?_⟩, fun a u q h => ⟨h.1, e a u h.2 (nt u q)⟩⟩
  rcases h.2 with z | ⟨o, z⟩
  · exact .inl (e a u z (nt u q))
  · exact .inr ⟨o, e a _ z (fun ps w => by cases w)⟩
theorem srh_extN {H1 : Hp} (r : SRh Γ ρ F hp H) (e : ExtN H H1) (t : Tabs Γ.T H1) : SRh Γ ρ F hp H1 := by
  refine r.off (step_extN e) (fun i hi => ?_) t
  obtain ⟨o, _, q⟩ := r.at hi
  obtain ⟨u, hs, hu⟩ := RepO.ownK q
  exact (e _ _ hu fun ps w => by rw [w] at hs; cases hs).trans hu.symm
theorem told_ok {xm : Nat → Nat → Option Bool} {K : PySem.W.Frag} (xk : XmOk K Γ xm) {hs : List (Nat × List Nat)} {m : M CV} {Q : VK} (z : rd Γ W (reV Γ) (eTold xm hs m) σ H Q) : tLam Γ.T (TToldM K Γ hs) (fun E => rd Γ (WK E) (reV Γ) m) σ H Q := by
  obtain ⟨ρ, F, hp, env, r, e, p⟩ := z
  refine ⟨r.tab, fun H1 ex t1 => ⟨ρ, F, hp, env, srh_extN r ex t1, e.mono (step_extN ex), ?_⟩⟩
  have p1 := Post.step (step_extN (ρ := ρ) (N := hp.N) ex) p
  unfold eTold at p1
  revert p1
  generalize m env hp = w
  intro p1
  cases w with
  | stuck => exact p1
  | ok v hp' => exact p1
  | exc c fs hp' => exact fun ρ' H' d s r' q σ' => toldR_ok xk r' (Post.step s p1)
theorem sx_lam [S : Sx X Γ W k] {kl : Nat} {A : Around} {outer : List Env} {s : Shared} {H : Hp} {E : XK} {scope : Scope} {f c' : Addr} (hr : Room kl (A.deeper (lamEnv X scope s.heap.objs.size f c'))) : Sx (lamCx X A outer s H E scope f c') Γ (WK E) kl :=
  ⟨S.K, rfl, S.nd, hr, takes_of rfl rfl rfl rfl⟩
/-- x(lambda: body), x the law's told -/
theorem sim_told [S : Sx X Γ W k] {kl : Nat} {xm : Nat → Nat → Option Bool} {hs : List (Nat × List Nat)} {m : M CV} {x a : Str} {c P : Addr} {pg : Arguments} {bg : List Stmt} {sg : Scope} {Ng : List Str} {params : Arguments} {body : Expr} {scope : Scope} {p lpos : Pos}
    (xk : XmOk X.K Γ xm) (d : DefK X.K X.mg x pg bg sg [a]) (Sg : FnScope Ng [a] sg) (hNg : Ng[0]? = some a) (hva : Vis sg a) (hG : ∀ (g : Addr) (cdg : Value), GivesTo X Ng x sg g cdg bg a (X.env.qual ++ "<lambda>") (TToldM X.K Γ hs))
    (TB : TabB X.base X.mg c P) (hcode : X.env.code = .ref c) (hmT : (P, X.env.qual ++ "<lambda>") ∈ Γ.T) (hu : ∀ p ∈ Γ.T, p.1 = P → p.2 = X.env.qual ++ "<lambda>") (le : kl + 2 ≤ k) (L : LamS X.env.scope scope)
    (hbody : ∀ (A : Around) (outer : List Env) (s : Shared) (H : Hp) (E : XK) (f c' : Addr), Sx (lamCx X A outer s H E scope f c') Γ (WK E) kl → SimE (lamCx X A outer s H E scope f c') Γ (WK E) body m)
    (hg : Gl X x := by rfl) (hdef : defaultsOf params X.env = ([], []) := by rfl)
    (hbind : ∀ (q : Str) (cl : List (Str × Addr)) (pm cv ctv : Value), bindArgs (PySem.W.kla_fn "<lambda>" q params body scope cl pm cv ctv) ⟨[], []⟩ = pure [] := by intros; rfl)
    (hdb : (x == ("__debug__" : Str)) = false := by decide) (hd : (a == ("__debug__" : Str)) = false := by decide) (hcd : (a == ("__classdict__" : Str)) = false := by decide) :
    SimE X Γ W (.Call (.Name x p) [.Lambda params body scope lpos] [] pos) (eTold xm hs m) := by
  obtain ⟨g, fd, F, hm, hb, _⟩ := d.ex
  obtain ⟨oc, od, dV, kV, doc, pm, an, cdv, ct, osl, rfl, lk, hcg, _, _⟩ := F.ex
  exact pe_imp (pe_lamcall (t := fun E => rd Γ (WK E) (reV Γ) m) hg hm F.kp lk hcg hb Sg hNg hva (hG g cdv) TB hcode hmT hu (S.room.mono le) L hdef hbind (fun A outer s H E f c' hr => hbody A outer s H E f c' (sx_lam hr)) hdb hd hcd) fun _ _ _ z => told_ok xk z
/-! ### a def that makes lambdas: its code object is known -/
theorem fn_okC {P : Program} {w : World} {K : PySem.W.Frag} {mg : Str → Option Value} {base : Heap} {x qual : Str} {params : Arguments} {stm : List Stmt} {scope : Scope} {dvs : List V} {kws : List (Str × V)} {f c : Addr} {fd : FuncData} {NN ps : List Str} {k n : Nat} {body : MS}
    (F : FunD K x qual params stm scope dvs kws f fd) (hc : fd.code = .ref c) (S : FnScope NN ps scope) (hK : Γ.K = K) (hn : ps.length = n)
    (hb : ∀ (A : Around) (outer : List Env) (s : Shared) (H : Hp) (E : XK), Sx (cxOf (L2.CX P w) P w K mg base NN qual scope f (.ref c) A outer s H E) Γ (WK E) k →
      SimSs (cxOf (L2.CX P w) P w K mg base NN qual scope f (.ref c) A outer s H E) Γ (WK E) stm body) :
    FnOk P w K mg base (L2.CX P w) (k + 1) f fd ps (spF Γ n (fnM NN.length body)) := by
  obtain ⟨oc, od, dV, kV, doc, pm, an, cdv, ct, osl, rfl, lk, hcd, _, _⟩ := F.ex
  have e : cdv = .ref c := hc
  subst e
  refine fn_of lk hcd S (fun vs H Q E h => h.1.trans hn.symm) fun A outer s H vs Q E hr h => ⟨_, hb A outer s H E ⟨hK.symm, rfl, S.nd, hr, takes_of rfl rfl rfl rfl⟩, ?_⟩
  obtain ⟨hl, ρ, F', hp, args, r, e, p⟩ := h
  refine ⟨ρ, F', hp, _, r, start_rep e, ?_⟩
  unfold fnM at p
  revert p
  generalize body (args.map some ++ List.replicate (NN.length - args.length) none) hp = z
  intro p
  cases z with
  | stuck => exact p
  | ok fl hp' =>
    cases fl with
    | nx env => exact fun ρ' H' σ' s r' _ => p ρ' H' _ s r' repN
    | rt v => exact p
    | bk env => exact p.elim
    | ct env => exact p.elim
    | ex c fs env => exact fun ρ' H' σ' d s r' q _ => p ρ' H' d s r' q
end
end Bl

/-! Own layer, part T: generator expressions, one for, under any and all. -/
namespace Bl
open PySem PySem.Spec PyProof.Rows L2 LamX

/-! ### the code object of a generator expression -/
theorem gx_code {X : Cx} {pins : List (Addr × Obj)} {σ : L2.St} {H : Hp} {s : Shared} {T : List (Addr × Str)} {c P : Addr} {q : Str} {scope : Scope} {pos : Pos} {Q : Value → Shared → Prop} (I : Inv X pins σ H s) (TB : TabB X.base X.mg c P) (hcode : X.env.code = .ref c)
    (hm : (P, q) ∈ T) (hu : ∀ p ∈ T, p.1 = P → p.2 = q) (hT : Tabs T H)
    (h : ∀ (c' : Addr) (H1 : Hp) (s' : Shared), Inv X pins σ H1 s' → ExtN H H1 → Tabs T H1 → (∀ b o, s.heap.get? b = some o → b ≠ P → s'.heap.get? b = some o) → (∀ b, H b = none → b < s.heap.objs.size → H1 b = none) → Q (.ref c') s') :
    wpAny (model X.prog X.w) X.A (genexprCode X.env pos q scope) Q X.xe s := by
  obtain ⟨ps, hP, ht, ha⟩ := hT _ hm
  have hP' : s.heap.get? P = some { cls := .none, data := .fields ps } := I.hok P _ hP
  have cd : PySem.W.CodeHd s.heap c P := TB.code.keeps I.bk
  cases hc : codeAmong pos ps.toList with
  | none =>
    refine wpAny_genexprCodeX hcode (cd.code hP' ht) (cd.tab hP') hc fun c' h' tk hx hge hlt hco' hrec htab' _ => ?_
    obtain ⟨c2, oc, vs, t, e2, hoc, hd, hv⟩ := hrec
    cases e2
    have nC : H c' = none := I.hok.fresh hge
    have I1 := inv_table (t' := tk) (more := #[rawInt pos.line, rawInt pos.col, .ref c']) I hP (fun b o hb e => hx b o hb e) htab'.2 hge ⟨oc, vs, t, hoc, hd, hv⟩
    have hE : ExtN H (upd (upd H P (.tbl (ps ++ #[rawInt pos.line, rawInt pos.col, .ref c']))) c' (CodeO c' q)) := fun b o e n => by
      have b1 : b ≠ c' := ne_of_none e nC
      have b2 : b ≠ P := fun z => n ps (Option.some.inj (e.symm.trans (by rw [z]; exact hP)))
      rw [upd_ne b1, upd_ne b2]
      exact e
    have eL : (ps ++ #[rawInt pos.line, rawInt pos.col, .ref c']).toList = ps.toList ++ [rawInt pos.line, rawInt pos.col, .ref c'] := by simp
    refine h c' _ _ I1 hE (fun p hp => ?_) (fun b o e hb => hx b o hb e) (fun b hn hb => ?_)
    · by_cases hb : p.1 = P
      · rw [hu p hp hb, hb]
        refine ⟨_, by rw [upd_ne (ne_of_none hP nC), upd_same], ?_, fun p' cv hcv => ?_⟩
        · rw [eL]; exact PySem.TriplesOk_snoc _ _ _ _ ht
        · rw [eL] at hcv
          rcases among_app _ ht hcv with z | z
          · obtain ⟨c0, e1, e2⟩ := ha p' cv z
            exact ⟨c0, e1, hE _ _ e2 codeO_ne⟩
          · exact ⟨c', z, upd_same⟩
      · obtain ⟨ps', a1, a2, a3⟩ := hT p hp
        have b1 : p.1 ≠ c' := ne_of_none a1 nC
        refine ⟨ps', by rw [upd_ne b1, upd_ne hb]; exact a1, a2, fun p' cv hcv => ?_⟩
        obtain ⟨c0, e1, e2⟩ := a3 p' cv hcv
        exact ⟨c0, e1, hE _ _ e2 codeO_ne⟩
    · have b1 : b ≠ c' := fun z => by
        rw [z] at hb
        exact Nat.lt_irrefl _ (Nat.lt_of_le_of_lt hge hb)
      have b2 : b ≠ P := fun z => by
        rw [z, hP] at hn
        cases hn
      rw [upd_ne b1, upd_ne b2]
      exact hn
  | some cv =>
    obtain ⟨c', e, hco⟩ := ha pos cv hc
    subst e
    refine wpAny_genexprCode_hit hcode (cd.code hP' ht) hc ?_
    exact h c' H s I (ExtN.refl H) hT (fun b o e _ => e) (fun b hn _ => hn)

/-! ### the context of its turns -/
/-- one name of the frame's own (and .0), captured ones, globals -/
structure GxS (N : List Str) (sc scope : Scope) (own : List (Str × Nat)) : Prop where
  kind : scope.kind = .function
  co : scope.isCoroutine = false
  dot : scope.names.lookup (".0" : Str) = some NameKind.local
  dotN : (".0" : Str) ∉ N
  nocell : ∀ y ∈ scope.names, y.2 ≠ .cell
  uniq : ∀ y ∈ scope.names, scope.names.lookup y.1 = some y.2
  ix : ∀ p ∈ own, N[p.2]? = some p.1
  own : ∀ y ∈ scope.names, y.2 = .local → y.1 = ".0" ∨ y.1 ∈ own.map (·.1)
  free : ∀ y ∈ scope.names, y.2 = .free → sc.names.lookup y.1 = some .cell ∨ sc.names.lookup y.1 = some .free
abbrev gxEnv (X : Cx) (scope : Scope) (L : Addr) (code : Value) : Env := genEnv scope (cloFrom X.env.cells scope.names []) L code builtinsNs X.env
abbrev gxC (X : Cx) (A : Around) (s : Shared) (H : Hp) (cenv : Env) (fp : List Addr) (pn : List (Addr × Obj)) : Cx :=
  { X with A := A, s_0 := s, H_0 := H, env := cenv, outer := X.stack, stack := cenv :: X.stack, ex := fp, fn := fun _ => false, pn := pn, xe := fun _ _ => False }
theorem gx_start {X : Cx} {pins : List (Addr × Obj)} {σ : L2.St} {H : Hp} {s : Shared} {scope : Scope} {own : List (Str × Nat)} {fp : List Addr} {A : Around} {code : Value} {it : Value} {h2 : Heap} {g2 : Array GenState} {d2 : Drawn} {t2 : Nat} {a : Addr} {go : Obj}
    (I : Inv X pins σ H s) (G : GxS X.N X.env.scope scope own) (hN : X.N.Nodup) (hfp : ∀ b ∈ fp, FpOk X pins H b ∧ b < s.heap.objs.size ∧ ∃ o, s.heap.get? b = some o ∧ ∀ v, o.data ≠ .cell v)
    (hA : A.frames = some (gxEnv X scope s.heap.objs.size code :: X.stack)) (hh : X.calm = true → A.handled = none)
    (keep : ∀ b o, s.heap.get? b = some o → h2.get? b = some o) (ns : h2.Ns s.heap.objs.size (fun y => if y = ".0" then some it else none)) (hb : AllBare g2) (ha : s.heap.objs.size < a) (hgo : h2.get? a = some go) (hgd : ∀ v, go.data ≠ .cell v) :
    Inv (gxC X A s H (gxEnv X scope s.heap.objs.size code) fp [(a, go)]) [] (wipe σ (own.map (·.2))) H { s with heap := h2, gens := g2, drawn := d2, toks := t2 } := by
  have hfree : ∀ y ∈ scope.names, y.2 = .free → ∃ c, X.env.cells.lookup y.1 = some c := fun y hy e => by
    rcases G.free y hy e with k | k
    · exact I.ok.has _ (.inl k)
    · exact I.ok.has _ (.inr k)
  have cm : ∀ {y c}, (cloFrom X.env.cells scope.names []).lookup y = some c → X.env.cells.lookup y = some c := fun {y c} e => by
    rcases cloFrom_mem (PySem.mem_of_lookup e) with hm | ⟨h1, h2⟩
    · cases hm
    · obtain ⟨c1, hc⟩ := hfree _ h1 rfl
      have hc' : X.env.cells.lookup y = some c1 := hc
      have e2 : c = c1 := by
        rw [h2, hc'] <;> rfl
      rw [e2]
      exact hc'
  have look : ∀ {y}, scope.names.lookup y = some .free → ∃ c, (cloFrom X.env.cells scope.names []).lookup y = some c := fun {y} hl =>
    mem_lookup (cloFrom_has (cells := X.env.cells) (acc := []) (PySem.mem_of_lookup hl))
  have clt : ∀ {y c}, X.env.cells.lookup y = some c → c < s.heap.objs.size := fun {y c} e => by
    obtain ⟨v, z⟩ := I.cell y c e
    exact z.lt
  have isC : ∀ {c v}, s.heap.IsCell c v → h2.IsCell c v := fun {c v} ⟨o, e, d⟩ => ⟨o, keep _ _ e, d⟩
  refine ⟨⟨I.ok.mod, G.kind, I.ok.glob, rfl, Nat.le_refl _, fun y z c e1 e2 => I.ok.inj y z c (cm e1) (cm e2), fun y hy => ?_, fun y c z _ => ?_, hh, hA, .inr ⟨rfl, rfl⟩, fun b hb' => ⟨?_, fun y c e z => ?_⟩, I.bs, Nat.le_trans I.ok.bsz I.sz, fun b o e hb' => ?_, fun b hb' z => ?_, I.stack, I.stkFree⟩,
    rfl, hb, Un.kept keep, ⟨_, ns, fun i y v e1 e2 e3 => ?_⟩, fun y c e => ?_, I.hok.fresh (Nat.le_refl _), fun y c e => I.freeC y c (cm e), fun p hp => ?_, I.hok.kept keep, ?_⟩
  · have hy : scope.names.lookup y = some .cell ∨ scope.names.lookup y = some .free := hy
    rcases hy with hy | hy
    · exact absurd rfl (G.nocell _ (PySem.mem_of_lookup hy))
    · exact look hy
  · have z : false = true := z
    cases z
  · exact Nat.ne_of_lt (hfp b hb').2.1
  · exact (hfp b hb').1.2.2.2.2.1 y c (cm e) z
  · rcases (hfp b hb').1.2.2.2.1 with z | z
    · exact I.ok.noex b o e z
    · exact absurd (Nat.lt_of_lt_of_le (Heap.lt_size (I.ok.bs b o e).1) z) (Nat.lt_irrefl _)
  · rcases List.mem_cons.mp (I.stkSub b z) with e | e
    · exact (hfp b hb').1.2.1 e
    · exact (hfp b hb').1.2.2.1 e
  · have e3 : Vis scope y := e3
    obtain ⟨e4, hni⟩ := wipe_some e2
    have hfr : scope.names.lookup y = some .free := by
      rcases e3 with k | k | k
      · rcases G.own _ (PySem.mem_of_lookup k) rfl with z | z
        · exact absurd (by rw [← z]; exact List.mem_of_getElem? e1) G.dotN
        · obtain ⟨p, hp, ep⟩ := List.mem_map.mp z
          have e5 := G.ix p hp
          rw [show p.1 = y from ep] at e5
          exact absurd (List.mem_map.mpr ⟨p, hp, nodup_ix hN e5 e1⟩) hni
      · exact absurd rfl (G.nocell _ (PySem.mem_of_lookup k))
      · exact k
    obtain ⟨m, hn, hl⟩ := I.loc
    have hvis : Vis X.env.scope y := (G.free _ (PySem.mem_of_lookup hfr) rfl).elim (fun k => .inr (.inl k)) (fun k => .inr (.inr k))
    obtain ⟨w', r, q⟩ := hl i y v e1 e4 hvis
    obtain ⟨c2, h3⟩ := look hfr
    refine ⟨w', r, .inr ⟨.inr hfr, c2, h3, ?_⟩⟩
    have c1 := cm h3
    rcases q with ⟨k', _⟩ | ⟨_, c3, e', z⟩
    · have k' : X.env.scope.names.lookup y = some .local := k'
      rcases G.free _ (PySem.mem_of_lookup hfr) rfl with k2 | k2 <;> rw [show X.env.scope.names.lookup y = _ from k2] at k' <;> cases k'
    · rw [c1] at e'
      cases e'
      exact isC z
  · obtain ⟨v, z⟩ := I.cell y c (cm e)
    exact ⟨v, isC z⟩
  · have hp : p = (a, go) := by simpa using hp
    subst hp
    refine ⟨hgo, I.hok.fresh (Nat.le_of_lt ha), Nat.ne_of_gt ha, fun z => ?_, hgd⟩
    rcases List.mem_cons.mp (I.stkSub a z) with e | e
    · have h1 := I.lt
      rw [← e] at h1
      exact Nat.lt_irrefl _ (Nat.lt_trans h1 ha)
    · exact I.nofs (Nat.le_of_lt ha) e
  · show (wipe σ (own.map (·.2))).length = X.N.length
    rw [wipe_length]; exact I.len
/-- back in the def -/
theorem gx_back {X : Cx} {pins pins' : List (Addr × Obj)} {σ σ' : L2.St} {H H' : Hp} {s s' : Shared} {A : Around} {cenv : Env} {fp : List Addr} {pn : List (Addr × Obj)} (I : Inv X pins σ H s) (hfp : ∀ b ∈ fp, FpOk X pins H b)
    (J : Inv (gxC X A s H cenv fp pn) pins' σ' H' s') : Inv X pins σ H' s' :=
  I.call' (ch := fp) J.os J.base J.hok J.bare fun b hb => ⟨(hfp b hb).2.2.2.1, (hfp b hb).2.1, (hfp b hb).2.2.2.2.1, (hfp b hb).2.2.2.2.2⟩

/-! ### a run of it, between what it hands out -/
/-- while it sleeps all that stands is kept -/
structure Asleep (s s' : Shared) : Prop where
  os : s'.os = s.os
  bare : AllBare s'.gens
  keep : ∀ b o, s.heap.get? b = some o → s'.heap.get? b = some o
theorem inv_asleep {Z : Cx} {σ : L2.St} {H : Hp} {s s' : Shared} (I : Inv Z [] σ H s) (a : Asleep s s') : Inv Z [] σ H s' := by
  obtain ⟨a1, a2, a3⟩ := a
  obtain ⟨hh, gg, dd, tt', oo⟩ := s'
  have e : oo = s.os := a1
  subst e
  exact I.call' (ch := []) rfl (Un.kept a3) (I.hok.kept a3) a2 fun b z => by simp at z
/-- its turns: W i m n H: ahead of the i-th item, at most m turns; Yd n y H: y is handed out; go n y: who takes it comes back; Fin: at the end -/
structure GxT (J : It) (g : TG) (tt : TT) (te : TE) (σw : L2.St) (vs : List Nat) (W : Nat → Nat → Nat → Hp → Prop) (Yd : Nat → V → Hp → Prop) (go : Nat → V → Prop) (Fin : Nat → Hp → Prop) : Prop where
  turn : ∀ i m n H, W i m n H → (J.stop i H ∧ Fin n H) ∨ (J.go i H ∧ ∀ x H', J.yld i H x H' → g x σw H' fun σ2 H2 => wipe σ2 vs = σw ∧ tt σ2 H2 fun b H3 =>
    if b = true then te σ2 H3 fun y H4 => ∃ n', n = n' + 1 ∧ Yd n' y H4 ∧ (go n' y → ∃ m', m' < m ∧ W (i + 1) m' n' H4) else ∃ m', m' < m ∧ W (i + 1) m' n H3)
def GxY (Z : Cx) (σw : L2.St) (Yd : Nat → V → Hp → Prop) (go : Nat → V → Prop) : Protocol := fun n _ v s kap =>
  ∃ y H, Yd n y H ∧ RelV y v ∧ Inv Z [] σw H s ∧ (go n y → ∀ s', Asleep s s' → kap (.send .none) s')
def GxF (Z : Cx) (σw : L2.St) (Fin : Nat → Hp → Prop) : Nat → Shared → Shared → Prop := fun n _ s => ∃ H, Fin n H ∧ Inv Z [] σw H s
abbrev GxR (Z : Cx) (σw : L2.St) (Fin : Nat → Hp → Prop) : GenEnd := fun n s₀ r s₁ => ((r = .ok (.ret .none) ∨ r = .ok .next) ∧ GxF Z σw Fin n s₀ s₁) ∨ ∃ e, r = .error e ∧ (fun (_ : Value) (_ : Shared) => False) e s₁
section
variable {X : Cx} {s4 : Shared} {H4 : Hp} {A A' : Around} {cenv : Env} {fp : List Addr} {pn : List (Addr × Obj)} {elt tg iter : Expr} {ifs : List Expr} {scope : Scope} {pos : Pos} {it : Addr} {J : It} {tn : Nat → Heap → Prop} {g : TG} {tt : TT} {te : TE} {σ : L2.St} {vs : List Nat}
    {W : Nat → Nat → Nat → Hp → Prop} {Yd : Nat → V → Hp → Prop} {go : Nat → V → Prop} {Fin : Nat → Hp → Prop}
theorem gx_seg (hA : A.over (.compLoop (.GeneratorExp elt [⟨tg, iter, ifs, 0⟩] scope pos) 0 (.ref it) .none cenv) [] = A') (T : Turn X.prog X.w X.K tg J fp it tn) (hc : X.calm = true) (hco : cenv.scope.isCoroutine = false) (hpn : ∀ p ∈ pn, p.1 ∉ fp)
    (pg : PG (gxC X A' s4 H4 cenv fp pn) tg g) (pt : PTs (gxC X A' s4 H4 cenv fp pn) ifs tt) (pe : PE (gxC X A' s4 H4 cenv fp pn) elt te) (G : GxT J g tt te (wipe σ vs) vs W Yd go Fin) :
    ∀ (m i n : Nat) (H : Hp) (s₀ s : Shared), W i m n H → Inv (gxC X A' s4 H4 cenv fp pn) [] (wipe σ vs) H s → tn i s.heap → (∀ b ∈ fp, H b = none) →
      Seg (model X.prog X.w) A (GxR (gxC X A' s4 H4 cenv fp pn) (wipe σ vs) Fin) (GxY (gxC X A' s4 H4 cenv fp pn) (wipe σ vs) Yd go) n s₀ (.compLoop (.GeneratorExp elt [⟨tg, iter, ifs, 0⟩] scope pos) 0 (.ref it) .none cenv)
        ((model X.prog X.w).den (.compLoop (.GeneratorExp elt [⟨tg, iter, ifs, 0⟩] scope pos) 0 (.ref it) .none cenv)) [] s := by
  have stat : ∀ {σ' : L2.St} {H' : Hp} {s' : Shared}, Inv (gxC X A' s4 H4 cenv fp pn) [] σ' H' s' → (∀ b ∈ fp, H' b = none) → ∀ b ∈ fp, FpOk (gxC X A' s4 H4 cenv fp pn) [] H' b := fun {σ' H' s'} I' hn b hb =>
    ⟨hn b hb, (I'.ok.exf b hb).1, I'.ok.exfs b hb, .inl hb, fun x c e => (I'.ok.exf b hb).2 x c e, fun p hp z => by
      have hp' : p ∈ pn := by simpa using hp
      exact hpn p hp' (by rw [z]; exact hb)⟩
  intro m
  induction m using Nat.strongRecOn with
  | _ m ih =>
  intro i n H s₀ s w I st nf
  show Seg _ A _ _ _ s₀ _ ((compTurn (.GeneratorExp elt [⟨tg, iter, ifs, 0⟩] scope pos) 0 (.ref it) .none cenv).onRaise (leaving cenv)) [] s
  rw [compTurn_gen, Sem.onRaise_eq_wrap]
  refine seg_bind_wrap (wpAny_standAt ?_)
  rcases G.turn i m n H w with ⟨stop, en⟩ | ⟨go, step⟩
  · refine seg_bind_wrap ?_
    rw [hA]
    refine thnF (T.done (gxC X A' s4 H4 cenv fp pn) rfl rfl rfl hc i [] s _ H (fun _ _ => False) I (stat I nf) st stop) fun r s6 ⟨hr, I6⟩ => ?_
    subst hr
    exact seg_end (.ok .next) (.inl ⟨.inr rfl, H, en, I6⟩)
  · refine seg_bind_wrap ?_
    rw [hA]
    refine thnF (T.item (gxC X A' s4 H4 cenv fp pn) rfl rfl rfl hc i [] s _ H (fun _ _ => False) I (stat I nf) st go) fun r s6 ⟨u, hr, h6⟩ => ?_
    subst hr
    refine seg_bind_wrap ?_
    rw [hA]
    refine thnF h6 fun _ s7 ⟨x, H7, I7, r7, y7, st7, n7⟩ => ?_
    have I7' := I7.pinned (stat I7 n7) (T.obj _ _ st7)
    refine seg_bind_wrap ?_
    rw [hA]
    refine thnF (pg.run _ s7 _ H7 x u _ I7' r7 (step x H7 y7)) fun _ s8 ⟨σ8, H8, I8, hw8, q8⟩ => ?_
    refine seg_bind_wrap ?_
    rw [hA]
    refine thnF (pt.run _ s8 σ8 H8 _ I8 q8) fun b s9 ⟨H9, I9, q9⟩ => ?_
    have fin : ∀ {s' : Shared} {H' : Hp}, Inv (gxC X A' s4 H4 cenv fp pn) ([] ++ pinsAt fp s7.heap) σ8 H' s' → Inv (gxC X A' s4 H4 cenv fp pn) [] (wipe σ vs) H' s' ∧ tn (i + 1) s'.heap ∧ ∀ b ∈ fp, H' b = none := fun {s' H'} I' => by
      have pin' : ∀ b ∈ fp, ∀ o, s7.heap.get? b = some o → s'.heap.get? b = some o ∧ H' b = none := fun b hb o e =>
        let z := I'.pin (b, o) (List.mem_append_right _ (List.mem_append_right _ (mem_pinsAt hb e)))
        ⟨z.1, z.2.1⟩
      have hl : (wipe σ vs).length = σ8.length := by rw [← hw8, wipe_length]
      refine ⟨(I'.unpinned (pins := [])).weak hl (fun j v e => ?_), T.keep _ _ _ st7 fun b hb o e => (pin' b hb o e).1, fun b hb => ?_⟩
      · rw [← hw8] at e
        exact (wipe_some e).1
      · obtain ⟨o, e, _⟩ := T.obj _ _ st7 b hb
        exact (pin' b hb o e).2
    cases b with
    | false =>
      simp only [Bool.false_eq_true, if_false] at q9 ⊢
      obtain ⟨m', hm, w'⟩ := q9
      obtain ⟨J1, J2, J3⟩ := fin I9
      exact seg_again rfl (ih m' hm (i + 1) n H9 s₀ s9 w' J1 J2 J3)
    | true =>
      simp only [if_true] at q9 ⊢
      have hy : ∀ v, yieldOut cenv v = yieldValue v := fun v => by simp only [yieldOut, hco, Bool.false_eq_true, if_false]
      simp only [hy]
      rw [Sem.bind_eq_wrap', Sem.bind_eq_wrap', Sem.wrap_wrap, Sem.wrap_wrap]
      refine seg_wrap ?_
      rw [hA]
      refine thnF (pe.run _ s9 σ8 H9 _ I9 q9) fun v s10 ⟨y, H10, I10, r10, n', en, yd, w'⟩ => ?_
      subst en
      obtain ⟨J1, J2, J3⟩ := fin I10
      refine seg_at (seg_yield rfl rfl rfl ⟨y, H10, yd, r10, J1, fun hgo s'' hal => ?_⟩)
      obtain ⟨m', hm, w''⟩ := w' hgo
      exact seg_again rfl (ih m' hm (i + 1) n' H10 s'' s'' w'' (inv_asleep J1 hal) (T.keep _ _ _ J2 fun b _ o e => hal.keep b o e) J3)
theorem gx_seg0 (hA : A.over (.compLoop (.GeneratorExp elt [⟨tg, iter, ifs, 0⟩] scope pos) 0 (.ref it) .none cenv) [] = A') (T : Turn X.prog X.w X.K tg J fp it tn) (hc : X.calm = true) (hco : cenv.scope.isCoroutine = false) (hpn : ∀ p ∈ pn, p.1 ∉ fp)
    (pg : PG (gxC X A' s4 H4 cenv fp pn) tg g) (pt : PTs (gxC X A' s4 H4 cenv fp pn) ifs tt) (pe : PE (gxC X A' s4 H4 cenv fp pn) elt te) (G : GxT J g tt te (wipe σ vs) vs W Yd go Fin)
    (m n : Nat) (H : Hp) (s₀ s : Shared) (w : W 0 m n H) (I : Inv (gxC X A' s4 H4 cenv fp pn) [] (wipe σ vs) H s) (st : tn 0 s.heap) (nf : ∀ b ∈ fp, H b = none) :
      Seg (model X.prog X.w) A (GxR (gxC X A' s4 H4 cenv fp pn) (wipe σ vs) Fin) (GxY (gxC X A' s4 H4 cenv fp pn) (wipe σ vs) Yd go) n s₀ (.compStart (.GeneratorExp elt [⟨tg, iter, ifs, 0⟩] scope pos) 0 (.ref it) .none cenv)
        ((model X.prog X.w).den (.compStart (.GeneratorExp elt [⟨tg, iter, ifs, 0⟩] scope pos) 0 (.ref it) .none cenv)) [] s := by
  have loop := gx_seg hA T hc hco hpn pg pt pe G m 0 n H s₀ s w I st nf
  show Seg _ A _ _ _ s₀ _ ((compStart (.GeneratorExp elt [⟨tg, iter, ifs, 0⟩] scope pos) 0 (.ref it) .none cenv).onRaise (leaving cenv)) [] s
  unfold compStart
  rw [Sem.onRaise_eq_wrap]
  show Seg _ A _ _ _ s₀ _ ((ask >>= _).wrap _ _ _ _) [] s
  refine seg_bind_wrap (wpAny_askSetting ?_)
  split
  · exact seg_again rfl loop
  · first
      | exact seg_bind_wrap (wpAny_rule (seg_bind_wrap (wpAny_standAt (seg_bind_wrap (T.self _ 0 s _ _ st (seg_again rfl loop))))))
      | (refine seg_bind_wrap (wpAny_rule ?_); show Seg _ A _ _ _ s₀ _ ((standAt iter.pos >>= _).wrap _ _ _ _) [] s; exact seg_bind_wrap (wpAny_standAt (seg_bind_wrap (T.self _ 0 s _ _ st (seg_again rfl loop)))))
end

/-! ### any, all: the walk of it -/
/-- the generator at a, its state ready for the next value -/
def GxAt (P : Program) (w : World) (A : Around) (Z : Cx) (σw : L2.St) (Yd : Nat → V → Hp → Prop) (go : Nat → V → Prop) (Fin : Nat → Hp → Prop) (a : Addr) (gi n : Nat) (s : Shared) : Prop :=
  s.heap.IsGen a gi ∧ ∃ gs, s.gens[gi]? = some gs ∧ gs.Goes (model P w) A (GxR Z σw Fin) (GxY Z σw Yd go) n (.send .none) (s.setGen gi .running)
section
variable {P : Program} {w : World} {A : Around} {Z : Cx} {σw : L2.St} {Yd : Nat → V → Hp → Prop} {go : Nat → V → Prop} {Fin : Nat → Hp → Prop} {R : Result → Shared → Prop} {a : Addr} {gi : Nat} {og : Obj}
/-- one turn -/
theorem gx_next (hh : A.handled = none) (hd : A.depth < recursionLimit) (hpn : (a, og) ∈ Z.pn) (hog : ∀ h : Heap, h.get? a = some og → h.IsGen a gi) {n : Nat} {s : Shared} {Q : Option Value → Shared → Prop} {E : Value → Shared → Prop}
    (hl : s.heap.NoLimit) (h : GxAt P w A.in1 Z σw Yd go Fin a gi n s)
    (hY : ∀ y v H s1, Yd (n - 1) y H → RelV y v → Inv Z [] σw H s1 → (go (n - 1) y → 0 < n ∧ GxAt P w A.in1 Z σw Yd go Fin a gi (n - 1) s1) → Q (some v) s1)
    (hF : ∀ H s1, Fin n H → Inv Z [] σw H s1 → Q none s1) : wpAny (model P w) A (pyNext (.ref a)) Q E s := by
  obtain ⟨hg, gs, hgs, hgo⟩ := h
  have hgl : gi < s.gens.size := (Array.getElem?_eq_some_iff.mp hgs).1
  refine GenW.wpAny_gsz (n := gi + 1) hgl (next_genG (A := A) hh hl hd hg hgs hgo (fun v s₁ gs' hbare hv hsz => ?_) (fun s₁ hp h' hk hsz => ?_) fun e s₁ he => he.elim)
  · have hsz1 : gi < s₁.gens.size := by
      have q : (s₁.setGen gi gs').gens.size = s₁.gens.size := GenW.setGen_size _ _ _
      have hsz' : gi + 1 ≤ (s₁.setGen gi gs').gens.size := hsz
      omega
    obtain ⟨y, H, hYd, hr, I, hkap⟩ := hv
    have I' : Inv Z [] σw H (s₁.setGen gi gs') := inv_asleep I ⟨rfl, allBare_setGen I.bare hbare, fun _ _ e => e⟩
    refine hY y v H _ hYd hr I' fun hgo2 => ?_
    have q := hkap hgo2 ((s₁.setGen gi gs').setGen gi .running) ⟨rfl, allBare_setGen (s := s₁.setGen gi gs') (x := .running) (g := gi) (allBare_setGen I.bare hbare) rfl, fun _ _ e => e⟩
    cases n with
    | zero => exact q.elim
    | succ n' => exact ⟨Nat.succ_pos _, hog _ (I'.pin (a, og) (List.mem_append_left _ hpn)).1, gs', setGen_at hsz1, q⟩
  · obtain ⟨H, hfin, I⟩ := hp
    exact hF H _ hfin (inv_asleep I ⟨rfl, allBare_setGen I.bare rfl, hk⟩)

theorem wpAny_truthy_any {M : Model} {A : Around} {b : Bool} {Q : Bool → Shared → Prop} {E : Value → Shared → Prop} {s : Shared} (h : Q b s) : wpAny M A (truthy (.bool b)) Q E s := wpAny_truthy_bool h
/-- any -/
theorem any_walk (hh : A.handled = none) (hd : A.depth < recursionLimit) (hpn : (a, og) ∈ Z.pn) (hog : ∀ h : Heap, h.get? a = some og → h.IsGen a gi) (hl : ∀ {H : Hp} {s : Shared}, Inv Z [] σw H s → s.heap.NoLimit) {Res : Bool → Hp → Prop}
    (hY : ∀ n y H, Yd n y H → ∃ b, y = .bl b ∧ (b = true → Res true H) ∧ (b = false → go n y)) (hF : ∀ n H, Fin n H → Res false H) (hR : ∀ b H s', Inv Z [] σw H s' → Res b H → R (.ok (.ret (.bool b))) s') :
    ∀ (n : Nat) (s : Shared), s.heap.NoLimit → GxAt P w A.in1.in1 Z σw Yd go Fin a gi n s → codeAny (model P w) A (.builtin "any.loop" ⟨[.ref a], []⟩) R s := by
  intro n
  induction n with
  | zero =>
    intro s l h
    refine codeAny_builtin F.entry_any_loop ?_
    rw [Around.under_plainId F.plain_any_loop _]
    show wpAny _ A.in1 (pyNext (.ref a) >>= _) _ _ s
    refine wpAny_bind (gx_next (A := A.in1) hh hd hpn hog l h (fun y v H s1 hy hr I hgo => ?_) fun H s1 hf I => ?_)
    · obtain ⟨b, rfl, h1, h2⟩ := hY _ _ _ hy
      cases hr
      refine wpAny_bind (wpAny_holding (wpAny_truthy_any ?_))
      refine wpAny_bind (wpAny_letGo ?_)
      cases b with
      | false => exact absurd (hgo (h2 rfl)).1 (Nat.lt_irrefl _)
      | true =>
        simp only [if_true]
        exact wpAny_bind (wpAny_rule (wpAny_pure (hR _ _ _ I (h1 rfl))))
    · exact wpAny_bind (wpAny_rule (wpAny_pure (hR _ _ _ I (hF _ _ hf))))
  | succ n ih =>
    intro s l h
    refine codeAny_builtin F.entry_any_loop ?_
    rw [Around.under_plainId F.plain_any_loop _]
    show wpAny _ A.in1 (pyNext (.ref a) >>= _) _ _ s
    refine wpAny_bind (gx_next (A := A.in1) hh hd hpn hog l h (fun y v H s1 hy hr I hgo => ?_) fun H s1 hf I => ?_)
    · obtain ⟨b, rfl, h1, h2⟩ := hY _ _ _ hy
      cases hr
      refine wpAny_bind (wpAny_holding (wpAny_truthy_any ?_))
      refine wpAny_bind (wpAny_letGo ?_)
      cases b with
      | false =>
        simp only [Bool.false_eq_true, if_false]
        exact wpAny_pure ⟨plainId_quiet F.plain_any_loop _, ih _ (hl I) (hgo (h2 rfl)).2⟩
      | true =>
        simp only [if_true]
        exact wpAny_bind (wpAny_rule (wpAny_pure (hR _ _ _ I (h1 rfl))))
    · exact wpAny_bind (wpAny_rule (wpAny_pure (hR _ _ _ I (hF _ _ hf))))
/-- all -/
theorem all_walk (hh : A.handled = none) (hd : A.depth < recursionLimit) (hpn : (a, og) ∈ Z.pn) (hog : ∀ h : Heap, h.get? a = some og → h.IsGen a gi) (hl : ∀ {H : Hp} {s : Shared}, Inv Z [] σw H s → s.heap.NoLimit) {Res : Bool → Hp → Prop}
    (hY : ∀ n y H, Yd n y H → ∃ b, y = .bl b ∧ (b = false → Res false H) ∧ (b = true → go n y)) (hF : ∀ n H, Fin n H → Res true H) (hR : ∀ b H s', Inv Z [] σw H s' → Res b H → R (.ok (.ret (.bool b))) s') :
    ∀ (n : Nat) (s : Shared), s.heap.NoLimit → GxAt P w A.in1.in1 Z σw Yd go Fin a gi n s → codeAny (model P w) A (.builtin "all.loop" ⟨[.ref a], []⟩) R s := by
  intro n
  induction n with
  | zero =>
    intro s l h
    refine codeAny_builtin F.entry_all_loop ?_
    rw [Around.under_plainId F.plain_all_loop _]
    show wpAny _ A.in1 (pyNext (.ref a) >>= _) _ _ s
    refine wpAny_bind (gx_next (A := A.in1) hh hd hpn hog l h (fun y v H s1 hy hr I hgo => ?_) fun H s1 hf I => ?_)
    · obtain ⟨b, rfl, h1, h2⟩ := hY _ _ _ hy
      cases hr
      refine wpAny_bind (wpAny_holding (wpAny_truthy_any ?_))
      refine wpAny_bind (wpAny_letGo ?_)
      cases b with
      | true => exact absurd (hgo (h2 rfl)).1 (Nat.lt_irrefl _)
      | false =>
        simp only [Bool.false_eq_true, if_false]
        exact wpAny_bind (wpAny_rule (wpAny_pure (hR _ _ _ I (h1 rfl))))
    · exact wpAny_bind (wpAny_rule (wpAny_pure (hR _ _ _ I (hF _ _ hf))))
  | succ n ih =>
    intro s l h
    refine codeAny_builtin F.entry_all_loop ?_
    rw [Around.under_plainId F.plain_all_loop _]
    show wpAny _ A.in1 (pyNext (.ref a) >>= _) _ _ s
    refine wpAny_bind (gx_next (A := A.in1) hh hd hpn hog l h (fun y v H s1 hy hr I hgo => ?_) fun H s1 hf I => ?_)
    · obtain ⟨b, rfl, h1, h2⟩ := hY _ _ _ hy
      cases hr
      refine wpAny_bind (wpAny_holding (wpAny_truthy_any ?_))
      refine wpAny_bind (wpAny_letGo ?_)
      cases b with
      | true =>
        simp only [if_true]
        exact wpAny_pure ⟨plainId_quiet F.plain_all_loop _, ih _ (hl I) (hgo (h2 rfl)).2⟩
      | false =>
        simp only [Bool.false_eq_true, if_false]
        exact wpAny_bind (wpAny_rule (wpAny_pure (hR _ _ _ I (h1 rfl))))
    · exact wpAny_bind (wpAny_rule (wpAny_pure (hR _ _ _ I (hF _ _ hf))))
end
end Bl

/-! Own layer, part U: any, all of a generator expression. -/
namespace Bl
open PySem PySem.Spec PyProof.Rows L2 LamX
abbrev gxObj (X : Cx) (gi : Nat) (t : Nat) : Obj := { cls := .type "generator", data := .fields #[.int gi 0, .str "<genexpr>" (t + 1), .str (X.env.qual ++ "<genexpr>") (t + 1 + 1)] }
/-- the Around of its segments -/
abbrev gxA (X : Cx) (elt tg iter : Expr) (ifs : List Expr) (scope : Scope) (pos : Pos) (it : Addr) (cenv : Env) : Around := X.A.in1.in1.over (.compLoop (.GeneratorExp elt [⟨tg, iter, ifs, 0⟩] scope pos) 0 (.ref it) .none cenv) []
section
variable {X : Cx} {k : Nat} {elt tg iter : Expr} {ifs : List Expr} {scope : Scope} {pos : Pos} {it : Addr} {cenv : Env}
theorem gxA_room (h : Room (k + 1) X.A) : Room k (gxA X elt tg iter ifs scope pos it cenv) := by
  refine ⟨h.hd, ?_, ?_⟩
  · have := h.dp
    have e : (gxA X elt tg iter ifs scope pos it cenv).depth ≤ X.A.depth + 1 := by
      first | exact Nat.le_of_eq rfl | exact Nat.le_refl _
    omega
  · have := h.un
    have e : (gxA X elt tg iter ifs scope pos it cenv).units ≤ X.A.units + 8 := by
      first | exact Nat.le_of_eq rfl | (show X.A.units + _ + _ ≤ _; decide) | (show X.A.units + 1 + 1 + 0 + 3 ≤ X.A.units + 8; omega)
    omega
theorem gxA_frames {l : List Env} (h : X.A.frames = some l) : (gxA X elt tg iter ifs scope pos it cenv).frames = some (cenv :: l) := by
  show pushEnvs [cenv] (pushEnvs [] X.A.frames) = _
  rw [h]
  rfl
end
/-- born: it waits for its first turn -/
theorem gx_make {X : Cx} {pins : List (Addr × Obj)} {σ : L2.St} {H : Hp} {s : Shared} {k : Nat} {own : List (Str × Nat)} {elt tg iter : Expr} {ifs : List Expr} {scope : Scope} {gpos : Pos} {c P : Addr} {wi : TI} {g : TG} {tt : TT} {te : TE} {T : List (Addr × Str)} {R : It → Hp → Prop} {Q' : Value → Shared → Prop}
    (hr : Room (k + 1) X.A) (hc : X.calm = true) (hN : X.N.Nodup) (TB : TabB X.base X.mg c P) (hcode : X.env.code = .ref c) (hm : (P, X.env.qual ++ "<genexpr>") ∈ T) (hu : ∀ p ∈ T, p.1 = P → p.2 = X.env.qual ++ "<genexpr>")
    (G : GxS X.N X.env.scope scope own) (hi : PI X tg iter wi) (hs : ∀ v, genFold iter X.env v = pure v) (I : Inv X pins σ H s) (h : wi σ H (fun J H1 => Tabs T H1 ∧ R J H1))
    (pg : ∀ A' s H L code fp pn, Room k A' → PG (gxC X A' s H (gxEnv X scope L code) fp pn) tg g) (pt : ∀ A' s H L code fp pn, Room k A' → PTs (gxC X A' s H (gxEnv X scope L code) fp pn) ifs tt) (pe : ∀ A' s H L code fp pn, Room k A' → PE (gxC X A' s H (gxEnv X scope L code) fp pn) elt te)
    (hQ : ∀ (J : It) (H1 H2 : Hp) (fp : List Addr) (A' : Around) (cenv : Env) (s4 s5 : Shared) (a : Addr) (gi : Nat) (og : Obj), R J H1 → ExtN H1 H2 → Tabs T H2 → Inv X pins σ H2 s4 → (∀ b ∈ fp, FpOk X pins H2 b) → (∀ h : Heap, h.get? a = some og → h.IsGen a gi) → s5.heap.get? a = some og → s5.heap.NoLimit →
      (∀ W Yd go Fin m n, W 0 m n H2 → GxT J g tt te (wipe σ (own.map (·.2))) (own.map (·.2)) W Yd go Fin →
         GxAt X.prog X.w X.A.in1.in1 (gxC X A' s4 H2 cenv fp [(a, og)]) (wipe σ (own.map (·.2))) Yd go Fin a gi n s5) → Q' (.ref a) s5) :
    wpAny (model X.prog X.w) X.A (eval (.GeneratorExp elt [⟨tg, iter, ifs, 0⟩] scope gpos) X.env) Q' X.xe s := by
  have hfree : ∀ y ∈ scope.names, y.2 = .free → ∃ c, X.env.cells.lookup y.1 = some c := fun y hy e => by
    rcases G.free y hy e with k | k
    · exact I.ok.has _ (.inl k)
    · exact I.ok.has _ (.inr k)
  refine wpAny_GeneratorExp_make G.co (closure_ok hfree) G.nocell G.dot G.kind hr.depth ?_ hs
  refine thn (hi.run pins s σ H _ I h) fun xv s1 h1 => ?_
  refine thn h1 fun itv s2 ⟨it, fp, tn, J, H1, e, I2, Tn, st, hfp, hT, hR⟩ => ?_
  subst e
  refine ⟨I2.nolimit, ?_⟩
  have hlt : ∀ b ∈ fp, b < s2.heap.objs.size := fun b hb => let ⟨o, ho, _⟩ := Tn.obj _ _ st b hb; Heap.lt_size ho
  refine gx_code I2 TB hcode hm hu hT fun c' H2 s4 I4 eN t4 keep4 none4 => ?_
  obtain ⟨bm, ob, e1, e2, e3, e4, e5, e6, e7, e8⟩ := TB.bm
  obtain ⟨ps, hP, _, _⟩ := hT _ hm
  have nP : ∀ b ∈ fp, b ≠ P := fun b hb z => by
    have z1 := (hfp b hb).1
    rw [z, hP] at z1
    cases z1
  have k4 : ∀ b ∈ fp, ∀ o, s2.heap.get? b = some o → s4.heap.get? b = some o := fun b hb o e => keep4 b o e (nP b hb)
  have st4 : tn 0 s4.heap := Tn.keep _ _ _ st k4
  have hfp4 : ∀ b ∈ fp, FpOk X pins H2 b := fun b hb => ⟨none4 b (hfp b hb).1 (hlt b hb), (hfp b hb).2⟩
  refine wpAny_builtinsFor (m := X.mg) (by rw [I4.ok.glob]; exact I4.mod.glob.keeps I4.bk) e1 e2 (I4.bk _ _ e5) e6 e7 e8 ?_
  intro h' hn' hs'
  have hsz : h'.objs.size = s4.heap.objs.size + 1 := by rw [hs'.1, Heap.size_push]
  have keep' : ∀ b o, s4.heap.get? b = some o → h'.get? b = some o := fun b o e => hs'.extBut b o (Nat.ne_of_lt (Heap.lt_size e)) (Heap.get?_push_of_some _ e)
  have keep5 : ∀ b o, s4.heap.get? b = some o → (h'.push (gxObj X s4.gens.size s4.toks)).get? b = some o := fun b o e => Heap.get?_push_of_some _ (keep' b o e)
  have og : (h'.push (gxObj X s4.gens.size s4.toks)).get? h'.objs.size = some (gxObj X s4.gens.size s4.toks) := Heap.get?_push_size _ rfl
  refine hQ J H1 H2 fp (gxA X elt tg iter ifs scope gpos it (gxEnv X scope s4.heap.objs.size (.ref c'))) (gxEnv X scope s4.heap.objs.size (.ref c')) s4 _ _ s4.gens.size (gxObj X s4.gens.size s4.toks) hR eN t4 I4 hfp4 (fun h e => ⟨_, _, _, e, rfl, rfl, rfl⟩) og (I4.nolimit.keeps keep5) fun W Yd go Fin m n hW hG => ?_
  refine ⟨⟨_, _, _, og, rfl, rfl, rfl⟩, _, Array.getElem?_push_size .., rfl, ?_⟩
  have hA : (gxA X elt tg iter ifs scope gpos it (gxEnv X scope s4.heap.objs.size (.ref c'))).frames = some (gxEnv X scope s4.heap.objs.size (.ref c') :: X.stack) := gxA_frames I4.ok.frames
  have R' : Room k (gxA X elt tg iter ifs scope gpos it (gxEnv X scope s4.heap.objs.size (.ref c'))) := gxA_room hr
  refine gx_seg0 rfl Tn hc G.co (fun p hp => ?_) (pg _ _ _ _ _ _ _ R') (pt _ _ _ _ _ _ _ R') (pe _ _ _ _ _ _ _ R') hG m n H2 _ _ hW ?_ (Tn.keep _ _ _ st4 fun b _ o e => keep5 b o e) (fun b hb => (hfp4 b hb).1)
  · have ep : p = (h'.objs.size, gxObj X s4.gens.size s4.toks) := by simpa using hp
    subst ep
    intro hb
    obtain ⟨o, ho, _⟩ := Tn.obj _ _ st _ hb
    have h2 : h'.objs.size < s4.heap.objs.size := Heap.lt_size (k4 _ hb o ho)
    rw [hsz] at h2
    exact Nat.lt_irrefl _ (Nat.lt_trans h2 (Nat.lt_succ_self _))
  · exact gx_start (d2 := s4.drawn) (t2 := s4.toks + 1 + 1 + 1) (g2 := (Shared.setGen { s4 with gens := s4.gens.push _ } s4.gens.size .running).gens) I4 G hN (fun b hb => ⟨hfp4 b hb, (by obtain ⟨o, ho, _⟩ := Tn.obj _ _ st4 b hb; exact Heap.lt_size ho), Tn.obj _ _ st4 b hb⟩) hA (fun _ => hr.hd)
      keep5 (hn'.push _) (allBare_setGen (s := { s4 with gens := s4.gens.push _ }) (I4.bare.push rfl) rfl) (by omega) og (fun v z => by cases z)

/-! ### any(..), all(..) -/
/-- the run's data for the consumer; b0: the answer at the end -/
def gxRun (b0 : Bool) (J : It) (g : TG) (tt : TT) (te : TE) (σw : L2.St) (vs : List Nat) (Q : VK) (H : Hp) : Prop :=
  ∃ W Yd go Fin m n, ∃ Res : Bool → Hp → Prop, W 0 m n H ∧ GxT J g tt te σw vs W Yd go Fin ∧ (∀ n y H, Yd n y H → ∃ b, y = .bl b ∧ (b = !b0 → Res (!b0) H) ∧ (b = b0 → go n y)) ∧ (∀ n H, Fin n H → Res b0 H) ∧ ∀ b H3, Res b H3 → Q (.bl b) H3
def tGx (T : List (Addr × Str)) (b0 : Bool) (wi : TI) (g : TG) (tt : TT) (te : TE) (vs : List Nat) : TE := fun σ H Q => wi σ H fun J H1 => Tabs T H1 ∧ ∀ H2, ExtN H1 H2 → Tabs T H2 → gxRun b0 J g tt te (wipe σ vs) vs Q H2
section
variable {X : Cx} {k : Nat} {own : List (Str × Nat)} {elt tg iter : Expr} {ifs : List Expr} {scope : Scope} {p pos gpos : Pos} {c P : Addr} {wi : TI} {g : TG} {tt : TT} {te : TE} {T : List (Addr × Str)} {nm : Str}
theorem pe_any (hr : Room (k + 1) X.A) (hc : X.calm = true) (hN : X.N.Nodup) (TB : TabB X.base X.mg c P) (hcode : X.env.code = .ref c) (hm : (P, X.env.qual ++ "<genexpr>") ∈ T) (hu : ∀ p ∈ T, p.1 = P → p.2 = X.env.qual ++ "<genexpr>")
    (G : GxS X.N X.env.scope scope own) (hi : PI X tg iter wi) 
    (pg : ∀ A' s H L code fp pn, Room k A' → PG (gxC X A' s H (gxEnv X scope L code) fp pn) tg g) (pt : ∀ A' s H L code fp pn, Room k A' → PTs (gxC X A' s H (gxEnv X scope L code) fp pn) ifs tt) (pe : ∀ A' s H L code fp pn, Room k A' → PE (gxC X A' s H (gxEnv X scope L code) fp pn) elt te)
    (hg : Gl X nm) (hmg : X.mg nm = none) (hv : bootBuiltins nm = some (.builtin "any")) (hnm : nm ≠ "__name__" := by decide) (hdb : (nm == ("__debug__" : Str)) = false := by decide)
    (hs : ∀ v, genFold iter X.env v = pure v := by intro _; rfl)
    (he : starEach [.GeneratorExp elt [⟨tg, iter, ifs, 0⟩] scope gpos] X.env = (false, eval (.GeneratorExp elt [⟨tg, iter, ifs, 0⟩] scope gpos) X.env) :: starEach [] X.env := by rfl) :
    PE X (.Call (.Name nm p) [.GeneratorExp elt [⟨tg, iter, ifs, 0⟩] scope gpos] [] pos) (tGx T false wi g tt te (own.map (·.2))) := by
  refine ⟨fun pins s σ H Q I h => ?_⟩
  refine wpAny_Call_Name_kw (ld_blt I hg hmg hv ?_ hnm hdb)
  refine PyProof.Rows.callWith_builtin1 ?_ he (by rfl)
  rw [he]
  show wpAny _ _ (spliced ((false, eval (.GeneratorExp elt [⟨tg, iter, ifs, 0⟩] scope gpos) X.env) :: backTo pos (starEach [] X.env))) _ _ s
  refine Calls.spliced_cons (gx_make hr hc hN TB hcode hm hu G hi hs I h pg pt pe fun J H1 H2 fp A' cenv s4 s5 a gi og hR eN t4 I4 hfp hog ho5 hl5 hG => ?_)
  refine Calls.spliced_nil ?_
  refine call_function_tree F.kind_any F.plain_any F.entry_any (F.args_any1 _) ?_
  unfold Builtin.«any»
  refine wpAny_bind (m := oneArg "any" _) (wpAny_pure ?_)
  refine wpAny_bind (wpAny_pyIter_gen (hog _ ho5) ?_)
  obtain ⟨W, Yd, go, Fin, m, n, Res, hW, hT, hY, hF, hQ⟩ := hR H2 eN t4
  refine wpAny_pure ⟨plainId_quiet F.plain_any_loop _, ?_⟩
  refine any_walk (A := X.A) (Z := gxC X A' s4 H2 cenv fp [(a, og)]) (og := og) (σw := wipe σ (own.map (·.2))) hr.hd hr.depth List.mem_cons_self hog (fun I => I.nolimit) (Res := Res) (fun n y H hy => ?_) hF (fun b H3 s' I3 hb => ?_) n s5 hl5 (hG W Yd go Fin m n hW hT)
  · exact hY n y H hy
  · exact ⟨.bl b, H3, gx_back I4 hfp I3, rfl, hQ b H3 hb⟩
theorem pe_all (hr : Room (k + 1) X.A) (hc : X.calm = true) (hN : X.N.Nodup) (TB : TabB X.base X.mg c P) (hcode : X.env.code = .ref c) (hm : (P, X.env.qual ++ "<genexpr>") ∈ T) (hu : ∀ p ∈ T, p.1 = P → p.2 = X.env.qual ++ "<genexpr>")
    (G : GxS X.N X.env.scope scope own) (hi : PI X tg iter wi) 
    (pg : ∀ A' s H L code fp pn, Room k A' → PG (gxC X A' s H (gxEnv X scope L code) fp pn) tg g) (pt : ∀ A' s H L code fp pn, Room k A' → PTs (gxC X A' s H (gxEnv X scope L code) fp pn) ifs tt) (pe : ∀ A' s H L code fp pn, Room k A' → PE (gxC X A' s H (gxEnv X scope L code) fp pn) elt te)
    (hg : Gl X nm) (hmg : X.mg nm = none) (hv : bootBuiltins nm = some (.builtin "all")) (hnm : nm ≠ "__name__" := by decide) (hdb : (nm == ("__debug__" : Str)) = false := by decide)
    (hs : ∀ v, genFold iter X.env v = pure v := by intro _; rfl)
    (he : starEach [.GeneratorExp elt [⟨tg, iter, ifs, 0⟩] scope gpos] X.env = (false, eval (.GeneratorExp elt [⟨tg, iter, ifs, 0⟩] scope gpos) X.env) :: starEach [] X.env := by rfl) :
    PE X (.Call (.Name nm p) [.GeneratorExp elt [⟨tg, iter, ifs, 0⟩] scope gpos] [] pos) (tGx T true wi g tt te (own.map (·.2))) := by
  refine ⟨fun pins s σ H Q I h => ?_⟩
  refine wpAny_Call_Name_kw (ld_blt I hg hmg hv ?_ hnm hdb)
  refine PyProof.Rows.callWith_builtin1 ?_ he (by rfl)
  rw [he]
  show wpAny _ _ (spliced ((false, eval (.GeneratorExp elt [⟨tg, iter, ifs, 0⟩] scope gpos) X.env) :: backTo pos (starEach [] X.env))) _ _ s
  refine Calls.spliced_cons (gx_make hr hc hN TB hcode hm hu G hi hs I h pg pt pe fun J H1 H2 fp A' cenv s4 s5 a gi og hR eN t4 I4 hfp hog ho5 hl5 hG => ?_)
  refine Calls.spliced_nil ?_
  refine call_function_tree F.kind_all F.plain_all F.entry_all (F.args_all1 _) ?_
  unfold Builtin.«all»
  refine wpAny_bind (m := oneArg "all" _) (wpAny_pure ?_)
  refine wpAny_bind (wpAny_pyIter_gen (hog _ ho5) ?_)
  obtain ⟨W, Yd, go, Fin, m, n, Res, hW, hT, hY, hF, hQ⟩ := hR H2 eN t4
  refine wpAny_pure ⟨plainId_quiet F.plain_all_loop _, ?_⟩
  refine all_walk (A := X.A) (Z := gxC X A' s4 H2 cenv fp [(a, og)]) (og := og) (σw := wipe σ (own.map (·.2))) hr.hd hr.depth List.mem_cons_self hog (fun I => I.nolimit) (Res := Res) (fun n y H hy => ?_) hF (fun b H3 s' I3 hb => ?_) n s5 hl5 (hG W Yd go Fin m n hW hT)
  · exact hY n y H hy
  · exact ⟨.bl b, H3, gx_back I4 hfp I3, rfl, hQ b H3 hb⟩
end
end Bl

/-! Own layer, part V: any, all, by the clean heap. -/
namespace Bl
open PySem PySem.Spec PyProof.Rows L2 LamX
def anyN (b0 : Bool) (next : Nat → Hc → Option (Option CV)) (tg : Tgt) (tests : M Bool) (elt : M CV) (env : En) : Nat → Nat → Hc → Option (Bool × Hc)
  | 0, _, _ => none
  | n + 1, i, hp => match next i hp with
    | none => none
    | some none => some (b0, hp)
    | some (some v) => match tg.f v env with
      | none => none
      | some env1 => match tests env1 hp with
        | .ok b hp1 => if b then (match elt env1 hp1 with
            | .ok (.bl y) hp2 => if y = b0 then anyN b0 next tg tests elt env n (i + 1) hp2 else some (y, hp2)
            | _ => none) else anyN b0 next tg tests elt env n (i + 1) hp1
        | _ => none
def eAny (b0 : Bool) (mi : M ITc) (tg : Tgt) (tests : M Bool) (elt : M CV) (own : List Nat) : M CV := fun env hp => (mi env hp).bind fun it hp =>
  match anyN b0 it.next tg tests elt (wipeE env own) it.fuel 0 hp with
  | some (b, hp') => .ok (.bl b) hp'
  | none => .stuck
section
variable {X : Cx} {Γ : Gx} {W : WX} {k : Nat} {F : List Nat} {ρ ρ' : Rh} {N N' : Nat} {H H' : Hp} {σ : L2.St} {env : En} {hp : Hc} {D : Ends}
theorem any_ok {b0 : Bool} {mi : M ITc} {tg : Tgt} {tests : M Bool} {elt : M CV} {own : List Nat} (hsl : ∀ j ∈ tg.sl, j ∈ own) {Q : VK} (h : rd Γ W (reV Γ) (eAny b0 mi tg tests elt own) σ H Q) :
    tGx Γ.T b0 (rdI Γ W mi) (rdG Γ tg) (rd Γ W0 reB tests) (rd Γ W0 (reV Γ) elt) own σ H Q := by
  obtain ⟨ρ, F, hp, env, r, e, p⟩ := h
  refine ⟨ρ, F, hp, env, r, e, ?_⟩
  unfold eAny at p
  revert p
  generalize mi env hp = z
  intro p
  cases z with
  | stuck => exact p
  | exc c fs hp' => exact p
  | ok it hp' =>
    intro ρ1 H1 J s1 r1 hJ
    refine ⟨r1.tab, fun H2 eN t2 => ?_⟩
    have e1 := e.mono s1
    have p1 : Post Γ F W σ ρ hp.N H (reV Γ) (match anyN b0 it.next tg tests elt (wipeE env own) it.fuel 0 hp' with | some (b, hp2) => .ok (.bl b) hp2 | none => .stuck) Q := p
    cases hres : anyN b0 it.next tg tests elt (wipeE env own) it.fuel 0 hp' with
    | none => rw [hres] at p1; exact p1.elim
    | some res =>
      obtain ⟨bR, hpE⟩ := res
      rw [hres] at p1
      refine ⟨fun i m n H => ∃ ρ2 hp2, Step ρ1 hp'.N H1 ρ2 hp2.N H ∧ SRh Γ ρ2 F hp2 H ∧ anyN b0 it.next tg tests elt (wipeE env own) m i hp2 = some (bR, hpE) ∧ m ≤ n,
        fun n y H => ∃ b, y = .bl b ∧ (b = !b0 → ∃ ρ2, Step ρ1 hp'.N H1 ρ2 hpE.N H ∧ SRh Γ ρ2 F hpE H ∧ bR = !b0), fun n y => y = .bl b0,
        fun n H => ∃ ρ2, Step ρ1 hp'.N H1 ρ2 hpE.N H ∧ SRh Γ ρ2 F hpE H ∧ bR = b0, it.fuel, it.fuel, fun b H => ∃ ρ2, Step ρ1 hp'.N H1 ρ2 hpE.N H ∧ SRh Γ ρ2 F hpE H ∧ bR = b,
        ⟨ρ1, hp', step_extN eN, srh_extN r1 eN t2, hres, Nat.le_refl _⟩, ⟨?_⟩, fun n y H ⟨b, ey, hb⟩ => ⟨b, ey, fun e => hb e, fun e => by rw [ey, e]⟩, fun n H z => z, fun b H3 ⟨ρ2, s2, r2, eb⟩ => p1 ρ2 H3 (.bl b) (s1.trans s2) r2 (by show Rep Γ ρ2 hpE.N H3 hpE.N (.bl bR) (.bl b); rw [eb]; exact repB)⟩
      rintro i m n H2 ⟨ρ2, hp2, m1, m2, h2, hle⟩
      cases m with
      | zero => simp [anyN] at h2
      | succ m =>
        have hi := hJ i ρ2 hp2 H2 m1 m2
        unfold anyN at h2
        revert hi h2
        generalize it.next i hp2 = w
        intro hi h2
        match w with
        | none => cases h2
        | some none =>
          cases h2
          exact .inl ⟨hi, ρ2, m1, m2, rfl⟩
        | some (some v) =>
          obtain ⟨go, hy⟩ := hi
          refine .inr ⟨go, fun x H4 yl => ?_⟩
          obtain ⟨s4, r4, h4⟩ := hy x H4 yl
          have e4 : SRe Γ ρ2 hp2.N H4 (L2.wipe σ own) (wipeE env own) := ((e1.mono m1).mono s4).wipe own
          have h2' : (match tg.f v (wipeE env own) with
            | none => none
            | some env1 => match tests env1 hp2 with
              | .ok b hp1 => if b then (match elt env1 hp1 with
                  | .ok (.bl y) hp2 => if y = b0 then anyN b0 it.next tg tests elt (wipeE env own) m (i + 1) hp2 else some (y, hp2)
                  | _ => none) else anyN b0 it.next tg tests elt (wipeE env own) m (i + 1) hp1
              | _ => none) = some (bR, hpE) := h2
          clear h2
          split at h2'
          · cases h2'
          · rename_i env1 q1
            refine ⟨ρ2, F, hp2, _, v, env1, r4, e4, h4, q1, fun σ5 e5 a5 => ⟨wipe_agr a5 hsl, ρ2, F, hp2, env1, r4, e5, ?_⟩⟩
            split at h2'
            · rename_i b hp5 q2
              rw [q2]
              intro ρ6 H6 b' s6 r6 hb
              cases (show b = b' from hb)
              have m6 := (m1.trans s4).trans s6
              cases b with
              | false =>
                rw [if_neg Bool.false_ne_true] at h2' ⊢
                exact ⟨m, Nat.lt_succ_self m, ρ6, hp5, m6, r6, h2', Nat.le_of_succ_le hle⟩
              | true =>
                rw [if_pos rfl] at h2' ⊢
                refine ⟨ρ6, F, hp5, env1, r6, e5.mono s6, ?_⟩
                split at h2'
                · rename_i y hp7 q3
                  rw [q3]
                  intro ρ8 H8 x8 s8 r8 h8
                  have h8' : Rep Γ ρ8 hp7.N H8 hp7.N (.bl y) x8 := h8
                  unfold Rep at h8'
                  subst h8'
                  obtain ⟨n', rfl⟩ : ∃ n', n = n' + 1 := ⟨n - 1, by omega⟩
                  refine ⟨n', rfl, ⟨y, rfl, fun ey => ?_⟩, fun ey => ⟨m, Nat.lt_succ_self m, ρ8, hp7, m6.trans s8, r8, ?_, Nat.le_of_succ_le_succ hle⟩⟩
                  · rw [if_neg (by rw [ey]; cases b0 <;> decide)] at h2'
                    cases h2'
                    exact ⟨ρ8, m6.trans s8, r8, ey⟩
                  · have ey' : y = b0 := by injection ey
                    rw [if_pos ey'] at h2'
                    exact h2'
                · cases h2'
            · cases h2'
/-- what is known of a maker's code object and table: nm is the code's name -/
structure GxD (K : PySem.W.Frag) (mg : Str → Option Value) (base : Heap) (Γ : Gx) (x : He.Defn) (nm : Str) : Prop where
  tb : LamX.TabB base mg (He.cT K x).1 (He.cT K x).2
  mem : ((He.cT K x).2, nm) ∈ Γ.T
  uni : ∀ p ∈ Γ.T, p.1 = (He.cT K x).2 → p.2 = nm
theorem sx_gx [S : Sx X Γ W k] {k' : Nat} {A : Around} {s : Shared} {H : Hp} {cenv : Env} {fp : List Addr} {pn : List (Addr × Obj)} (hr : Room k' A) : Sx (gxC X A s H cenv fp pn) Γ W0 k' :=
  ⟨S.K, S.calm, S.nd, hr, takesW0⟩
section
variable {k' : Nat} {own : List (Str × Nat)} {elt tg iter : Expr} {ifs : List Expr} {scope : Scope} {p pos gpos : Pos} {x : He.Defn} {nm q : Str} {mi : M ITc} {t : Tgt} {mt : M Bool} {me : M CV}
theorem sim_any [S : Sx X Γ W k] (gd : GxD X.K X.mg X.base Γ x q) (hcode : X.env.code = .ref (He.cT X.K x).1) (le : k' + 1 ≤ k) (G : GxS X.N X.env.scope scope own) (hi : SimI X Γ W tg iter mi)
    (hg : ∀ A' s H L code fp pn, Sx (gxC X A' s H (gxEnv X scope L code) fp pn) Γ W0 k' → SimG (gxC X A' s H (gxEnv X scope L code) fp pn) Γ tg t)
    (ht : ∀ A' s H L code fp pn, Sx (gxC X A' s H (gxEnv X scope L code) fp pn) Γ W0 k' → SimTs (gxC X A' s H (gxEnv X scope L code) fp pn) Γ W0 ifs mt)
    (he : ∀ A' s H L code fp pn, Sx (gxC X A' s H (gxEnv X scope L code) fp pn) Γ W0 k' → SimE (gxC X A' s H (gxEnv X scope L code) fp pn) Γ W0 elt me)
    (hgl : Gl X nm) (hmg : X.mg nm = none) (hv : bootBuiltins nm = some (.builtin "any")) (hq : X.env.qual ++ "<genexpr>" = q := by kernel_rfl) (hsl : ∀ j ∈ t.sl, j ∈ own.map (·.2) := by decide) (hnm : nm ≠ "__name__" := by decide) (hdb : (nm == ("__debug__" : Str)) = false := by decide)
    (hs : ∀ v, genFold iter X.env v = pure v := by intro _; rfl)
    (hst : starEach [.GeneratorExp elt [⟨tg, iter, ifs, 0⟩] scope gpos] X.env = (false, eval (.GeneratorExp elt [⟨tg, iter, ifs, 0⟩] scope gpos) X.env) :: starEach [] X.env := by rfl) :
    SimE X Γ W (.Call (.Name nm p) [.GeneratorExp elt [⟨tg, iter, ifs, 0⟩] scope gpos] [] pos) (eAny false mi t mt me (own.map (·.2))) :=
  pe_imp (pe_any (S.room.mono le) S.calm S.nd gd.tb hcode (by rw [hq]; exact gd.mem) (by rw [hq]; exact gd.uni) G hi (fun A' s H L code fp pn hr => hg A' s H L code fp pn (sx_gx hr)) (fun A' s H L code fp pn hr => ht A' s H L code fp pn (sx_gx hr)) (fun A' s H L code fp pn hr => he A' s H L code fp pn (sx_gx hr)) hgl hmg hv hnm hdb hs hst) fun _ _ _ z => any_ok hsl z
theorem sim_all [S : Sx X Γ W k] (gd : GxD X.K X.mg X.base Γ x q) (hcode : X.env.code = .ref (He.cT X.K x).1) (le : k' + 1 ≤ k) (G : GxS X.N X.env.scope scope own) (hi : SimI X Γ W tg iter mi)
    (hg : ∀ A' s H L code fp pn, Sx (gxC X A' s H (gxEnv X scope L code) fp pn) Γ W0 k' → SimG (gxC X A' s H (gxEnv X scope L code) fp pn) Γ tg t)
    (ht : ∀ A' s H L code fp pn, Sx (gxC X A' s H (gxEnv X scope L code) fp pn) Γ W0 k' → SimTs (gxC X A' s H (gxEnv X scope L code) fp pn) Γ W0 ifs mt)
    (he : ∀ A' s H L code fp pn, Sx (gxC X A' s H (gxEnv X scope L code) fp pn) Γ W0 k' → SimE (gxC X A' s H (gxEnv X scope L code) fp pn) Γ W0 elt me)
    (hgl : Gl X nm) (hmg : X.mg nm = none) (hv : bootBuiltins nm = some (.builtin "all")) (hq : X.env.qual ++ "<genexpr>" = q := by kernel_rfl) (hsl : ∀ j ∈ t.sl, j ∈ own.map (·.2) := by decide) (hnm : nm ≠ "__name__" := by decide) (hdb : (nm == ("__debug__" : Str)) = false := by decide)
    (hs : ∀ v, genFold iter X.env v = pure v := by intro _; rfl)
    (hst : starEach [.GeneratorExp elt [⟨tg, iter, ifs, 0⟩] scope gpos] X.env = (false, eval (.GeneratorExp elt [⟨tg, iter, ifs, 0⟩] scope gpos) X.env) :: starEach [] X.env := by rfl) :
    SimE X Γ W (.Call (.Name nm p) [.GeneratorExp elt [⟨tg, iter, ifs, 0⟩] scope gpos] [] pos) (eAny true mi t mt me (own.map (·.2))) :=
  pe_imp (pe_all (S.room.mono le) S.calm S.nd gd.tb hcode (by rw [hq]; exact gd.mem) (by rw [hq]; exact gd.uni) G hi (fun A' s H L code fp pn hr => hg A' s H L code fp pn (sx_gx hr)) (fun A' s H L code fp pn hr => ht A' s H L code fp pn (sx_gx hr)) (fun A' s H L code fp pn hr => he A' s H L code fp pn (sx_gx hr)) hgl hmg hv hnm hdb hs hst) fun _ _ _ z => any_ok hsl z
end
/-- GxS by evaluation -/
def gxsB (N : List Str) (sc scope : Scope) (own : List (Str × Nat)) : Bool :=
  decide (scope.kind = .function) && (!scope.isCoroutine && (decide (scope.names.lookup (".0" : Str) = some NameKind.local) && (decide ((".0" : Str) ∉ N) && (scope.names.all (fun y => !(y.2 == .cell)) && (scope.names.all (fun y => decide (scope.names.lookup y.1 = some y.2)) &&
    (own.all (fun p => decide (N[p.2]? = some p.1)) && (scope.names.all (fun y => !(y.2 == .local) || (decide (y.1 = ".0") || decide (y.1 ∈ own.map (·.1)))) && scope.names.all (fun y => !(y.2 == .free) || (decide (sc.names.lookup y.1 = some .cell) || decide (sc.names.lookup y.1 = some .free))))))))))
theorem gxS_by {N : List Str} {sc scope : Scope} {own : List (Str × Nat)} (h : gxsB N sc scope own = true) : GxS N sc scope own := by
  unfold gxsB at h
  simp only [Bool.and_eq_true, decide_eq_true_eq, List.all_eq_true, Bool.or_eq_true, Bool.not_eq_true'] at h
  obtain ⟨h1, h2, h3, h4, h5, h6, h7, h8, h9⟩ := h
  refine ⟨h1, h2, h3, h4, fun y hy e => ?_, h6, h7, fun y hy e => ?_, fun y hy e => ?_⟩
  · have := h5 y hy
    rw [e] at this
    exact absurd this (by decide)
  · rcases h8 y hy with z | z
    · rw [e] at z; exact absurd z (by decide)
    · exact z
  · rcases h9 y hy with z | z
    · rw [e] at z; exact absurd z (by decide)
    · exact z
end
theorem DefK.knC {Γ : Gx} {P : Program} {w : World} {K : PySem.W.Frag} {mg : Str → Option Value} {base : Heap} {x : Str} {params : Arguments} {stm : List Stmt} {scope : Scope} {NN ps : List Str} {k n : Nat} {body : MS}
    (d : DefK K mg x params stm scope ps) (S : FnScope NN ps scope) (hK : Γ.K = K) (hn : ps.length = n)
    (hb : ∀ (f : Addr) (A : Around) (outer : List Env) (s : Shared) (H : Hp) (E : XK), Sx (cxOf (L2.CX P w) P w K mg base NN x scope f (.ref (He.cT K (x, none)).1) A outer s H E) Γ (WK E) k →
      SimSs (cxOf (L2.CX P w) P w K mg base NN x scope f (.ref (He.cT K (x, none)).1) A outer s H E) Γ (WK E) stm body) : Kn P w K mg base Γ (k + 1) x n (fnM NN.length body) := by
  obtain ⟨f, fd, h1, h2, h3, _⟩ := d.ex
  exact ⟨f, fd, ps, fn_okC h1 (d.cd f fd h1 h2) S hK hn (hb f), h2, h1.kp, h3⟩
end Bl

/-! Own layer, part W: dicts: display, d[k], k in d, d[k] = v. -/
namespace Bl
open PySem PySem.Spec PyProof.Rows L2
/-! ### keys -/
def kEq : CV → CV → Bool
  | .int i, .int j => decide (i = j)
  | .str s, .str t => decide (s = t)
  | _, _ => false
def kEqL : List CV → List CV → Bool
  | [], [] => true
  | a :: r, b :: q => kEq a b && kEqL r q
  | _, _ => false
def tEq : CV → CV → Bool
  | .tup a, .tup b => kEqL a b
  | _, _ => false
theorem kEq_iff {a b : CV} {a' b' : Key} (ha : keyC a = some a') (hb : keyC b = some b') : kEq a b = true ↔ a' = b' := by
  cases a with
  | int i =>
    cases ha
    cases b with
    | int j =>
      cases hb
      show decide (i = j) = true ↔ _
      rw [decide_eq_true_eq]
      exact ⟨fun e => by rw [e], fun e => Sum.inl.inj e⟩
    | str t =>
      cases hb
      exact ⟨fun e => (by cases e), fun e => (by cases e)⟩
    | _ => cases hb
  | str s =>
    cases ha
    cases b with
    | int j =>
      cases hb
      exact ⟨fun e => (by cases e), fun e => (by cases e)⟩
    | str t =>
      cases hb
      show decide (s = t) = true ↔ _
      rw [decide_eq_true_eq]
      exact ⟨fun e => by rw [e], fun e => sOf_inj.mp (Sum.inr.inj e)⟩
    | _ => cases hb
  | _ => cases ha
theorem kEqL_iff : ∀ {a b : List CV} {a' b' : List Key}, keysC a = some a' → keysC b = some b' → (kEqL a b = true ↔ a' = b')
  | [], [], a', b', ha, hb => by
    cases ha; cases hb
    exact ⟨fun _ => rfl, fun _ => rfl⟩
  | [], y :: q, a', b', ha, hb => by
    cases ha
    unfold keysC at hb
    split at hb
    · cases hb; exact ⟨fun e => (by cases e), fun e => (by cases e)⟩
    · cases hb
  | x :: r, [], a', b', ha, hb => by
    cases hb
    unfold keysC at ha
    split at ha
    · cases ha; exact ⟨fun e => (by cases e), fun e => (by cases e)⟩
    · cases ha
  | x :: r, y :: q, a', b', ha, hb => by
    unfold keysC at ha hb
    split at ha
    · rename_i x' r' e1 e2
      cases ha
      split at hb
      · rename_i y' q' e3 e4
        cases hb
        show (kEq x y && kEqL r q) = true ↔ _
        rw [Bool.and_eq_true, kEq_iff e1 e3, kEqL_iff e2 e4]
        exact ⟨fun ⟨h1, h2⟩ => by rw [h1, h2], fun e => by injection e with h1 h2; exact ⟨h1, h2⟩⟩
      · cases hb
    · cases ha
theorem tEq_iff {a b : CV} {a' b' : List Key} (ha : keyT a = some a') (hb : keyT b = some b') : tEq a b = true ↔ a' = b' := by
  cases a with
  | tup xs =>
    cases b with
    | tup ys => exact kEqL_iff ha hb
    | _ => cases hb
  | _ => cases ha
/-! ### the pairs -/
def lookD (eq : CV → CV → Bool) (k : CV) : List (CV × CV) → Option CV
  | [] => none
  | (a, x) :: r => if eq a k = true then some x else lookD eq k r
def replD (eq : CV → CV → Bool) (k v : CV) : List (CV × CV) → List (CV × CV)
  | [] => []
  | (a, x) :: r => (if eq a k = true then (a, v) else (a, x)) :: replD eq k v r
def putD (eq : CV → CV → Bool) (k v : CV) (kvs : List (CV × CV)) : List (CV × CV) := match lookD eq k kvs with
  | some _ => replD eq k v kvs
  | none => kvs ++ [(k, v)]
section
variable {Γ : Gx} {ρ : Rh} {N : Nat} {H : Hp} {m : Nat}
theorem RepK.look {k : CV} {k' : Key} (hk : keyC k = some k') : ∀ {kvs : List (CV × CV)} {ds : List (Key × V)}, RepK Γ ρ N H m kvs ds → match lookD kEq k kvs with
    | some x => ∃ v, valV ds k' = some v ∧ Rep Γ ρ N H m x v
    | none => valV ds k' = none
  | [], ds, h => by unfold RepK at h; subst h; exact rfl
  | (a, x) :: kvs, ds, h => by
    unfold RepK at h
    obtain ⟨a', v, r, rfl, ha, h1, h2⟩ := h
    unfold lookD
    by_cases e : kEq a k = true
    · rw [if_pos e]
      exact ⟨v, valV_pos ((kEq_iff ha hk).mp e), h1⟩
    · rw [if_neg e, valV_neg (p := (a', v)) fun z => e ((kEq_iff ha hk).mpr z)]
      exact RepK.look hk h2
theorem RepT.look {k : CV} {k' : List Key} (hk : keyT k = some k') : ∀ {kvs : List (CV × CV)} {ds : List (List Key × V)}, RepT Γ ρ N H m kvs ds → match lookD tEq k kvs with
    | some x => ∃ v, valV ds k' = some v ∧ Rep Γ ρ N H m x v
    | none => valV ds k' = none
  | [], ds, h => by unfold RepT at h; subst h; exact rfl
  | (a, x) :: kvs, ds, h => by
    unfold RepT at h
    obtain ⟨a', v, r, rfl, ha, h1, h2⟩ := h
    unfold lookD
    by_cases e : tEq a k = true
    · rw [if_pos e]
      exact ⟨v, valV_pos ((tEq_iff ha hk).mp e), h1⟩
    · rw [if_neg e, valV_neg (p := (a', v)) fun z => e ((tEq_iff ha hk).mpr z)]
      exact RepT.look hk h2
theorem RepK.repl {k x : CV} {k' : Key} {v : V} (hk : keyC k = some k') (hx : Rep Γ ρ N H m x v) : ∀ {kvs : List (CV × CV)} {ds : List (Key × V)}, RepK Γ ρ N H m kvs ds → RepK Γ ρ N H m (replD kEq k x kvs) (ds.map fun kv => if kv.1 = k' then (kv.1, v) else kv)
  | [], ds, h => by unfold RepK at h; subst h; unfold replD RepK; rfl
  | (a, y) :: kvs, ds, h => by
    unfold RepK at h
    obtain ⟨a', w, r, rfl, ha, h1, h2⟩ := h
    unfold replD
    rw [List.map_cons]
    by_cases e : kEq a k = true
    · rw [if_pos e, if_pos ((kEq_iff ha hk).mp e)]
      unfold RepK
      exact ⟨a', v, _, rfl, ha, hx, RepK.repl hk hx h2⟩
    · rw [if_neg e, if_neg fun z => e ((kEq_iff ha hk).mpr z)]
      unfold RepK
      exact ⟨a', w, _, rfl, ha, h1, RepK.repl hk hx h2⟩
theorem RepT.repl {k x : CV} {k' : List Key} {v : V} (hk : keyT k = some k') (hx : Rep Γ ρ N H m x v) : ∀ {kvs : List (CV × CV)} {ds : List (List Key × V)}, RepT Γ ρ N H m kvs ds → RepT Γ ρ N H m (replD tEq k x kvs) (ds.map fun kv => if kv.1 = k' then (kv.1, v) else kv)
  | [], ds, h => by unfold RepT at h; subst h; unfold replD RepT; rfl
  | (a, y) :: kvs, ds, h => by
    unfold RepT at h
    obtain ⟨a', w, r, rfl, ha, h1, h2⟩ := h
    unfold replD
    rw [List.map_cons]
    by_cases e : tEq a k = true
    · rw [if_pos e, if_pos ((tEq_iff ha hk).mp e)]
      unfold RepT
      exact ⟨a', v, _, rfl, ha, hx, RepT.repl hk hx h2⟩
    · rw [if_neg e, if_neg fun z => e ((tEq_iff ha hk).mpr z)]
      unfold RepT
      exact ⟨a', w, _, rfl, ha, h1, RepT.repl hk hx h2⟩
theorem RepK.app {kvs ls : List (CV × CV)} : ∀ {ds es : List (Key × V)}, RepK Γ ρ N H m kvs ds → RepK Γ ρ N H m ls es → RepK Γ ρ N H m (kvs ++ ls) (ds ++ es) := by
  induction kvs with
  | nil => intro ds es h h2; unfold RepK at h; subst h; exact h2
  | cons p kvs ih =>
    obtain ⟨a, x⟩ := p
    intro ds es h h2
    unfold RepK at h
    obtain ⟨a', v, r, rfl, ha, h1, h3⟩ := h
    show RepK Γ ρ N H m ((a, x) :: (kvs ++ ls)) _
    unfold RepK
    exact ⟨a', v, _, rfl, ha, h1, ih h3 h2⟩
theorem RepT.app {kvs ls : List (CV × CV)} : ∀ {ds es : List (List Key × V)}, RepT Γ ρ N H m kvs ds → RepT Γ ρ N H m ls es → RepT Γ ρ N H m (kvs ++ ls) (ds ++ es) := by
  induction kvs with
  | nil => intro ds es h h2; unfold RepT at h; subst h; exact h2
  | cons p kvs ih =>
    obtain ⟨a, x⟩ := p
    intro ds es h h2
    unfold RepT at h
    obtain ⟨a', v, r, rfl, ha, h1, h3⟩ := h
    show RepT Γ ρ N H m ((a, x) :: (kvs ++ ls)) _
    unfold RepT
    exact ⟨a', v, _, rfl, ha, h1, ih h3 h2⟩
theorem RepK.put {k x : CV} {k' : Key} {v : V} {kvs : List (CV × CV)} {ds : List (Key × V)} (hk : keyC k = some k') (hx : Rep Γ ρ N H m x v) (h : RepK Γ ρ N H m kvs ds) : RepK Γ ρ N H m (putD kEq k x kvs) (putK ds k' v) := by
  have l := RepK.look hk h
  unfold putD putK
  rw [valV_any]
  cases e : lookD kEq k kvs with
  | some y =>
    rw [e] at l
    obtain ⟨w, e1, _⟩ := l
    rw [e1]
    exact RepK.repl hk hx h
  | none =>
    rw [e] at l
    have l' : valV ds k' = none := l
    rw [l']
    exact RepK.app h (by unfold RepK; exact ⟨k', v, [], rfl, hk, hx, by unfold RepK; rfl⟩)
theorem RepT.put {k x : CV} {k' : List Key} {v : V} {kvs : List (CV × CV)} {ds : List (List Key × V)} (hk : keyT k = some k') (hx : Rep Γ ρ N H m x v) (h : RepT Γ ρ N H m kvs ds) : RepT Γ ρ N H m (putD tEq k x kvs) (putK ds k' v) := by
  have l := RepT.look hk h
  unfold putD putK
  rw [valV_any]
  cases e : lookD tEq k kvs with
  | some y =>
    rw [e] at l
    obtain ⟨w, e1, _⟩ := l
    rw [e1]
    exact RepT.repl hk hx h
  | none =>
    rw [e] at l
    have l' : valV ds k' = none := l
    rw [l']
    exact RepT.app h (by unfold RepT; exact ⟨k', v, [], rfl, hk, hx, by unfold RepT; rfl⟩)
theorem RepK.len : ∀ {kvs : List (CV × CV)} {ds : List (Key × V)}, RepK Γ ρ N H m kvs ds → kvs.length = ds.length
  | [], _, h => by unfold RepK at h; subst h; rfl
  | (a, x) :: kvs, _, h => by
    unfold RepK at h
    obtain ⟨a', v, r, rfl, _, _, h2⟩ := h
    rw [List.length_cons, List.length_cons, RepK.len h2]
theorem RepT.len : ∀ {kvs : List (CV × CV)} {ds : List (List Key × V)}, RepT Γ ρ N H m kvs ds → kvs.length = ds.length
  | [], _, h => by unfold RepT at h; subst h; rfl
  | (a, x) :: kvs, _, h => by
    unfold RepT at h
    obtain ⟨a', v, r, rfl, _, _, h2⟩ := h
    rw [List.length_cons, List.length_cons, RepT.len h2]
theorem key_rep {k : CV} {k' : Key} {y : V} (hk : keyC k = some k') (h : Rep Γ ρ N H m k y) : y = kV k' := by
  cases k with
  | int i => cases hk; unfold Rep at h; exact h
  | str s => cases hk; unfold Rep at h; exact h
  | _ => cases hk
theorem keys_rep : ∀ {ks : List CV} {ks' : List Key} {ys : List V}, keysC ks = some ks' → Reps Γ ρ N H m ks ys → ys = ks'.map kV
  | [], ks', ys, hk, h => by cases hk; unfold Reps at h; exact h
  | k :: ks, ks', ys, hk, h => by
    unfold Reps at h
    obtain ⟨v, r, rfl, h1, h2⟩ := h
    unfold keysC at hk
    split at hk
    · rename_i a b e1 e2
      cases hk
      rw [key_rep e1 h1, keys_rep e2 h2]; rfl
    · cases hk
theorem keyT_rep {k : CV} {k' : List Key} {y : V} (hk : keyT k = some k') (h : Rep Γ ρ N H m k y) : ∃ b, y = .ref b ∧ H b = some (.tup (k'.map kV)) := by
  cases k with
  | tup xs =>
    unfold Rep at h
    obtain ⟨a, vs, rfl, h1, h2⟩ := h
    have e := keys_rep (show keysC xs = some k' from hk) h2
    subst e
    exact ⟨a, rfl, h1.2⟩
  | _ => cases hk
end
/-! ### reading -/
/-- the dict's pairs; Bool: keys are tuples -/
def dOf (hp : Hc) : CV → Option (Bool × List (CV × CV))
  | .dct t kvs => some (t, kvs)
  | .ref n => match hp.os[n]? with
    | some (.dic t kvs) => some (t, kvs)
    | _ => none
  | _ => none
/-- what the dict holds at a key: none: not a dict, not a key of its kind -/
def getD? (hp : Hc) (d k : CV) : Option (Option CV) := match dOf hp d with
  | some (false, kvs) => if (keyC k).isSome = true then some (lookD kEq k kvs) else none
  | some (true, kvs) => if (keyT k).isSome = true then some (lookD tEq k kvs) else none
  | none => none
section
variable {X : Cx} {Γ : Gx} {W : WX} {k : Nat} {F : List Nat} {ρ : Rh} {N : Nat} {H : Hp} {σ : L2.St} {env : En} {hp : Hc} {D : Ends} {pos : Pos}
theorem dOf_k {d : CV} {x : V} {kvs : List (CV × CV)} (r : SRh Γ ρ F hp H) (h : Rep Γ ρ hp.N H hp.N d x) (e : dOf hp d = some (false, kvs)) : ∃ a ds, x = .ref a ∧ Rd H a (.dK ds) ∧ RepK Γ ρ hp.N H hp.N kvs ds := by
  unfold dOf at e
  split at e
  · cases e
    unfold Rep at h
    obtain ⟨a, ds, rfl, h1, h2⟩ := h
    exact ⟨a, ds, rfl, h1.2, h2.mono Step.refl (Nat.zero_le _) (Nat.zero_le _)⟩
  · split at e
    · rename_i he
      cases e
      unfold Rep at h
      obtain ⟨_, rfl⟩ := h
      obtain ⟨ds, h1, h2⟩ := r.obj _ _ he
      exact ⟨_, ds, rfl, .inl h1, h2⟩
    · cases e
  · cases e
theorem dOf_t {d : CV} {x : V} {kvs : List (CV × CV)} (r : SRh Γ ρ F hp H) (h : Rep Γ ρ hp.N H hp.N d x) (e : dOf hp d = some (true, kvs)) : ∃ a ds, x = .ref a ∧ Rd H a (.dT ds) ∧ RepT Γ ρ hp.N H hp.N kvs ds := by
  unfold dOf at e
  split at e
  · cases e
    unfold Rep at h
    obtain ⟨a, ds, rfl, h1, h2⟩ := h
    exact ⟨a, ds, rfl, h1.2, h2.mono Step.refl (Nat.zero_le _) (Nat.zero_le _)⟩
  · split at e
    · rename_i he
      cases e
      unfold Rep at h
      obtain ⟨_, rfl⟩ := h
      obtain ⟨ds, h1, h2⟩ := r.obj _ _ he
      exact ⟨_, ds, rfl, .inl h1, h2⟩
    · cases e
  · cases e
def OptR (Γ : Gx) (ρ : Rh) (N : Nat) (H : Hp) (o : Option CV) (ov : Option V) : Prop := match o with
  | some c => ∃ v, ov = some v ∧ Rep Γ ρ N H N c v
  | none => ov = none
theorem getD_ok {d q : CV} {x y : V} {o : Option CV} (r : SRh Γ ρ F hp H) (hd : Rep Γ ρ hp.N H hp.N d x) (hq : Rep Γ ρ hp.N H hp.N q y) (e : getD? hp d q = some o) :
    ∃ a ov, x = .ref a ∧ DGet H a y ov ∧ OptR Γ ρ hp.N H o ov := by
  unfold getD? at e
  split at e
  · rename_i kvs ed
    split at e
    · rename_i hk
      cases e
      obtain ⟨k', ek⟩ := Option.isSome_iff_exists.mp hk
      obtain ⟨a, ds, rfl, h1, h2⟩ := dOf_k r hd ed
      have l := RepK.look ek h2
      refine ⟨a, valV ds k', rfl, .inl ⟨ds, k', h1, key_rep ek hq, rfl⟩, ?_⟩
      exact l
    · cases e
  · rename_i kvs ed
    split at e
    · rename_i hk
      cases e
      obtain ⟨k', ek⟩ := Option.isSome_iff_exists.mp hk
      obtain ⟨a, ds, rfl, h1, h2⟩ := dOf_t r hd ed
      obtain ⟨b, rfl, hb⟩ := keyT_rep ek hq
      have l := RepT.look ek h2
      refine ⟨a, valV ds k', rfl, .inr ⟨ds, k', b, h1, rfl, hb, rfl⟩, ?_⟩
      exact l
    · cases e
  · cases e
/-- d[k] -/
def vDGet (d q : CV) (hp : Hc) : R CV := match getD? hp d q with
  | some (some v) => .ok v hp
  | _ => .stuck
theorem sim_dget [S : Sx X Γ W k] {o i : Expr} {mo mi : M CV} (ho : SimE X Γ W o mo) (hi : SimE X Γ W i mi) (hs : NoSl i := by intro _ _; rfl) : SimE X Γ W (.Subscript o i pos) (e2 vDGet mo mi) :=
  pe_imp (pe_dget (by have := S.room.un; omega) ho hi hs) fun σ H Q z => by
    obtain ⟨ρ, F, hp, env, r0, e0, p⟩ := z
    refine rd_mono (rd_next (re := reV Γ) r0 e0 p) fun x H1 ⟨ρ1, hp1, d, s1, r1, e1, h1, p1⟩ => ?_
    refine rd_mono (rd_next (re := reV Γ) r1 e1 p1) fun y H2 ⟨ρ2, hp2, q, s2, r2, e2, h2, p2⟩ => ?_
    unfold vDGet at p2
    split at p2
    · rename_i v ev
      obtain ⟨a, ov, rfl, g, l⟩ := getD_ok r2 (h1.mono s2 (Nat.le_refl _) s2.le) h2 ev
      obtain ⟨w, rfl, hw⟩ := l
      exact ⟨a, w, rfl, g, p2.ok r2 hw⟩
    · exact p2.elim
/-- k in d, k not in d -/
def vDIn (neg : Bool) (q d : CV) (hp : Hc) : R CV := match getD? hp d q with
  | some o => .ok (.bl (if neg = true then !o.isSome else o.isSome)) hp
  | none => .stuck
theorem isSome_eq {o : Option CV} {ov : Option V} (l : OptR Γ ρ hp.N H o ov) : o.isSome = ov.isSome := by
  cases o with
  | some c => obtain ⟨v, rfl, _⟩ := l; rfl
  | none => have l' : ov = none := l; rw [l']; rfl
theorem pc_dinC [S : Sx X Γ W k] {o i : Expr} {mo mi : M CV} (hi : SimE X Γ W i mi) (ho : SimE X Γ W o mo) : PC X .In i o (rd Γ W (reV Γ) (e2 (vDIn false) mi mo)) :=
  ⟨fun pins s σ H Q I z => (pc_din (by have := S.room.un; omega) hi ho).run pins s σ H Q I (by
    obtain ⟨ρ, F, hp, env, r0, e0, p⟩ := z
    refine rd_mono (rd_next (re := reV Γ) r0 e0 p) fun y H1 ⟨ρ1, hp1, q, s1, r1, e1, h1, p1⟩ => ?_
    refine rd_mono (rd_next (re := reV Γ) r1 e1 p1) fun x H2 ⟨ρ2, hp2, d, s2, r2, e2, h2, p2⟩ => ?_
    unfold vDIn at p2
    split at p2
    · rename_i o ev
      obtain ⟨a, ov, rfl, g, l⟩ := getD_ok r2 h2 (h1.mono s2 (Nat.le_refl _) s2.le) ev
      exact ⟨a, ov, rfl, g, p2.ok r2 (by rw [isSome_eq l]; exact repB)⟩
    · exact p2.elim)⟩
theorem pc_dninC [S : Sx X Γ W k] {o i : Expr} {mo mi : M CV} (hi : SimE X Γ W i mi) (ho : SimE X Γ W o mo) : PC X .NotIn i o (rd Γ W (reV Γ) (e2 (vDIn true) mi mo)) :=
  ⟨fun pins s σ H Q I z => (pc_dnotin (by have := S.room.un; omega) hi ho).run pins s σ H Q I (by
    obtain ⟨ρ, F, hp, env, r0, e0, p⟩ := z
    refine rd_mono (rd_next (re := reV Γ) r0 e0 p) fun y H1 ⟨ρ1, hp1, q, s1, r1, e1, h1, p1⟩ => ?_
    refine rd_mono (rd_next (re := reV Γ) r1 e1 p1) fun x H2 ⟨ρ2, hp2, d, s2, r2, e2, h2, p2⟩ => ?_
    unfold vDIn at p2
    split at p2
    · rename_i o ev
      obtain ⟨a, ov, rfl, g, l⟩ := getD_ok r2 h2 (h1.mono s2 (Nat.le_refl _) s2.le) ev
      exact ⟨a, ov, rfl, g, p2.ok r2 (by rw [isSome_eq l]; exact repB)⟩
    · exact p2.elim)⟩
/-! ### {} and d[k] = v -/
def eDNew (t : Bool) : M CV := fun _ hp => .ok (.ref hp.N) (hp.push (.dic t []))
theorem sim_dnewK : SimE X Γ W (.Dict [] [] pos) (eDNew false) := pe_imp pe_dnewK fun σ H Q z => by
  obtain ⟨ρ, F, hp, env, r, e, p⟩ := z
  intro a ha
  refine p (ext ρ hp.N a) _ (.ref a) (by rw [Hc.push_N]; exact step_alloc ha) (r.alloc ha ⟨[], upd_same, by unfold RepK; rfl⟩) ?_
  show Rep Γ (ext ρ hp.N a) (hp.push (.dic false [])).N _ (hp.push (.dic false [])).N (.ref hp.N) (.ref a)
  rw [Hc.push_N]; exact rep_ref
theorem sim_dnewT : SimE X Γ W (.Dict [] [] pos) (eDNew true) := pe_imp pe_dnewT fun σ H Q z => by
  obtain ⟨ρ, F, hp, env, r, e, p⟩ := z
  intro a ha
  refine p (ext ρ hp.N a) _ (.ref a) (by rw [Hc.push_N]; exact step_alloc ha) (r.alloc ha ⟨[], upd_same, by unfold RepT; rfl⟩) ?_
  show Rep Γ (ext ρ hp.N a) (hp.push (.dic true [])).N _ (hp.push (.dic true [])).N (.ref hp.N) (.ref a)
  rw [Hc.push_N]; exact rep_ref
/-- the clean heap behind d[q] = v -/
def putH (d q v : CV) (hp : Hc) : Option Hc := match d with
  | .ref n => match hp.os[n]? with
    | some (.dic false kvs) => if (keyC q).isSome = true then (if (decide (n < hp.fl) && !limK (n + 1) (putD kEq q v kvs)) = true then none else if decide (kvs.length < 16777216) = true then some (hp.set n (.dic false (putD kEq q v kvs))) else none) else none
    | some (.dic true kvs) => if (keyT q).isSome = true then (if (decide (n < hp.fl) && !limK (n + 1) (putD tEq q v kvs)) = true then none else if decide (kvs.length < 16777216) = true then some (hp.set n (.dic true (putD tEq q v kvs))) else none) else none
    | _ => none
  | _ => none
theorem putH_ok {d q v : CV} {x y w : V} {hp' : Hc} (r : SRh Γ ρ F hp H) (hd : Rep Γ ρ hp.N H hp.N d x) (hq : Rep Γ ρ hp.N H hp.N q y) (hv : Rep Γ ρ hp.N H hp.N v w) (e : putH d q v hp = some hp') :
    ∃ n H', d = .ref n ∧ n < hp.N ∧ x = .ref (ρ n) ∧ DPut H (ρ n) y w H' ∧ hp'.N = hp.N ∧ Step ρ hp.N H ρ hp'.N H' ∧ SRh Γ ρ F hp' H' := by
  unfold putH at e
  split at e
  · rename_i n
    unfold Rep at hd
    obtain ⟨hn, rfl⟩ := hd
    split at e
    · rename_i kvs he
      split at e
      · rename_i hk
        obtain ⟨k', ek⟩ := Option.isSome_iff_exists.mp hk
        split at e
        · cases e
        · rename_i hc
          split at e
          · rename_i hl
            cases e
            obtain ⟨ds, a1, a2⟩ := r.obj _ _ he
            have st : Step ρ hp.N H ρ hp.N (upd H (ρ n) (.dK (putK ds k' w))) := step_write hn
            refine ⟨n, upd H (ρ n) (.dK (putK ds k' w)), rfl, hn, rfl, .inl ⟨ds, k', a1, key_rep ek hq, ?_, rfl⟩, Hc.set_N _ _ _, by rw [Hc.set_N]; exact st, ?_⟩
            · rw [← a2.len, sizeLine_eq]; exact of_decide_eq_true hl
            · refine r.write (c := .dic false (putD kEq q v kvs)) hn (fun hl => ?_) (fun f hf z => limO_mono hf (.dic false (putD kEq q v kvs)) z) ⟨_, upd_same, (RepK.put ek hv a2).mono st (Nat.le_refl _) (Nat.le_refl _)⟩
              by_cases hz : limK (n + 1) (putD kEq q v kvs) = true
              · exact hz
              · exact absurd (by rw [decide_eq_true hl, Bool.not_eq_true] at *; simp [hz]) hc
          · cases e
      · cases e
    · rename_i kvs he
      split at e
      · rename_i hk
        obtain ⟨k', ek⟩ := Option.isSome_iff_exists.mp hk
        obtain ⟨b, rfl, hb⟩ := keyT_rep ek hq
        split at e
        · cases e
        · rename_i hc
          split at e
          · rename_i hl
            cases e
            obtain ⟨ds, a1, a2⟩ := r.obj _ _ he
            have st : Step ρ hp.N H ρ hp.N (upd H (ρ n) (.dT (putK ds k' w))) := step_write hn
            refine ⟨n, upd H (ρ n) (.dT (putK ds k' w)), rfl, hn, rfl, .inr ⟨ds, k', b, a1, rfl, hb, ?_, rfl⟩, Hc.set_N _ _ _, by rw [Hc.set_N]; exact st, ?_⟩
            · rw [← a2.len, sizeLine_eq]; exact of_decide_eq_true hl
            · refine r.write (c := .dic true (putD tEq q v kvs)) hn (fun hl => ?_) (fun f hf z => limO_mono hf (.dic true (putD tEq q v kvs)) z) ⟨_, upd_same, (RepT.put ek hv a2).mono st (Nat.le_refl _) (Nat.le_refl _)⟩
              by_cases hz : limK (n + 1) (putD tEq q v kvs) = true
              · exact hz
              · exact absurd (by rw [decide_eq_true hl, Bool.not_eq_true] at *; simp [hz]) hc
          · cases e
      · cases e
    · cases e
  · cases e
def sDPutC (mv mo mi : M CV) : MS := fun env hp => RS.of (mv env hp) env fun v hp => RS.of (mo env hp) env fun d hp => RS.of (mi env hp) env fun q hp => match putH d q v hp with
  | some hp' => .ok (.nx env) hp'
  | none => .stuck
theorem sim_dput [S : Sx X Γ W k] {o i value : Expr} {mv mo mi : M CV} {pos' : Pos} (hv : SimE X Γ W value mv) (ho : SimE X Γ W o mo) (hi : SimE X Γ W i mi) (hs : swapsWith value (some (.Subscript o i pos')) pos.line X.env = pure false := by rfl) :
    SimS X Γ W (.Assign [.Subscript o i pos'] value pos) (sDPutC mv mo mi) :=
  ps_imp (ps_dput (by have := S.room.un; omega) ho hi hv hs) fun D σ H z => by
    obtain ⟨F, env, z⟩ := rdS_first (re := reV Γ) z
    refine rd_mono z fun v H1 ⟨ρ1, hp1, cv, r1, e1, g1, p1⟩ => ?_
    refine rd_mono (rdS_next (re := reV Γ) r1 e1 p1) fun x H2 ⟨ρ2, hp2, cd, s2, r2, e2, g2, p2⟩ => ?_
    refine rd_mono (rdS_next (re := reV Γ) r2 e2 p2) fun y H3 ⟨ρ3, hp3, cq, s3, r3, e3, g3, p3⟩ => ?_
    split at p3
    · rename_i hp' ep
      obtain ⟨n, H', _, _, rfl, g, eN, st, r'⟩ := putH_ok r3 (g2.mono s3 (Nat.le_refl _) s3.le) g3 (g1.mono (s2.trans s3) (Nat.le_refl _) (s2.trans s3).le) ep
      exact ⟨_, H', rfl, g, p3 ρ3 H' σ st r' (e3.mono st)⟩
    · exact p3.elim
end
end Bl

/-! Own layer, part X: dict comprehensions, keys of either kind. -/
namespace Bl
open PySem PySem.Spec PyProof.Rows L2
def nilD (t : Bool) : HO := if t = true then .dT [] else .dK []
theorem nilD_ok {P : Program} {w : World} {H : Hp} (t : Bool) (h : Heap) (hb : sysModules < h.objs.size) : ObjOk P w H (h.push { cls := .type "dict", data := .dict #[] }) h.objs.size (nilD t) := by
  cases t
  · exact dk_empty h hb
  · exact dt_empty h hb
section
variable {X : Cx}
theorem tkRoom {K : Type} [DecidableEq K] {prog : Program} {w : World} {knd : KeyKind prog w K} {A : Around} (hu : A.units + 1 < cLine) : (tupleKind knd).room A := Nat.le_of_lt hu
/-- the new pair's turn -/
theorem dput_comp {A : Around} {pins : List (Addr × Obj)} {σ : L2.St} {H H' : Hp} {s : Shared} {E : Value → Shared → Prop} {D : Addr} {y v : V} {u r : Value} {Q : Unit → Shared → Prop} (hu : A.units + 1 < cLine) (I : Inv X pins σ H s) (g : DPut H D y v H') (ry : RelV y u) (rv : RelV v r)
    (h : ∀ s', Inv X pins σ H' s' → Q () s') : wpAny (model X.prog X.w) A (dictSet D u r) Q E s := by
  rcases g with ⟨kvs, k, e, rfl, l, rfl⟩ | ⟨kvs, k, b, e, rfl, eb, l, rfl⟩
  · obtain ⟨z, hd, vs, rel, dd⟩ := dk_of I.hok e
    have hl : (putK kvs k v).length ≤ sizeLine := Nat.le_trans (length_putK kvs k v) l
    refine wpAny_dictSet_pairs (hsz := by rw [← rel.length]; exact z) (kV_is ry) dd fun h' dd' hs => h _ ?_
    exact d_write I (by rw [e]; trivial) hs (let ⟨q, _, _, hq, _⟩ := dd'; ⟨q, hq⟩) (dk_new hl hd (rel.put k rv) dd')
  · cases (show u = Value.ref b from ry)
    obtain ⟨z, hd, xs, rel, dd⟩ := dt_of I.hok e
    have hl : (putK kvs k v).length ≤ sizeLine := Nat.le_trans (length_putK kvs k v) l
    refine wpAny_dictSet_heap (hsz := by rw [← Paired.length rel]; exact z) (tkRoom hu) (key_of I.hok eb) dd fun h' dd' hs => h _ ?_
    obtain ⟨q, es, ep, hq, h2, h3, h4, _, h5⟩ := dd'
    refine d_write I (by rw [e]; trivial) hs ⟨q, hq⟩ ⟨hl, hd, _, (rel.put k eb rv).keeps fun c ys ec => ?_, q, es, ep, hq, h2, h3, h4, h5⟩
    rw [upd_ne fun z => by rw [z, e] at ec; cases ec]
    exact ec
/-- {k: v for target in iter if ..}: D the new dict -/
def tDcG (t : Bool) (wi : TI) (g : TG) (tt : TT) (tk tv : TE) (vs : List Nat) : TE := fun σ H Q => wi σ H fun J H1 => ∀ D, H1 D = none → ∃ Go : Nat → Nat → Hp → Prop, (∃ m, Go 0 m (upd H1 D (nilD t))) ∧ ∀ i m H, Go i m H →
  (J.stop i H ∧ Q (.ref D) H) ∨ (J.go i H ∧ ∀ x H', J.yld i H x H' → g x (wipe σ vs) H' fun σ2 H2 => wipe σ2 vs = wipe σ vs ∧ tt σ2 H2 fun b H3 =>
    if b = true then tk σ2 H3 fun y H4 => tv σ2 H4 fun z H5 => ∃ H6, DPut H5 D y z H6 ∧ ∃ m', m' < m ∧ Go (i + 1) m' H6 else ∃ m', m' < m ∧ Go (i + 1) m' H3)
abbrev bkE (X : Cx) (s : Shared) (scope : Scope) : Env := compEnvC scope (cellsFrom (s.heap.objs.size + 1) scope.names (cloFrom X.env.cells scope.names [])) s.heap.objs.size X.env
theorem pe_dcG {t : Bool} {kx vx tg iter : Expr} {ifs : List Expr} {scope : Scope} {own : List (Str × Nat)} {pos : Pos} {wi : TI} {g : TG} {tt : TT} {tk tv : TE} (hc : X.calm = true) (hN : X.N.Nodup) (hu : X.A.units + 1 < cLine) (hi : PI X tg iter wi) (ok : BlkOk X.N X.env.scope scope own)
    (hg : ∀ (s : Shared) (H : Hp) (C : Addr) (cl : List (Str × Addr)) (fp : List Addr), PG (X.blk s H scope (compEnvC scope cl C X.env) fp) tg g)
    (ht : ∀ (s : Shared) (H : Hp) (C : Addr) (cl : List (Str × Addr)) (fp : List Addr), PTs (X.blk s H scope (compEnvC scope cl C X.env) fp) ifs tt)
    (hk : ∀ (s : Shared) (H : Hp) (C : Addr) (cl : List (Str × Addr)) (fp : List Addr), PE (X.blk s H scope (compEnvC scope cl C X.env) fp) kx tk)
    (hv : ∀ (s : Shared) (H : Hp) (C : Addr) (cl : List (Str × Addr)) (fp : List Addr), PE (X.blk s H scope (compEnvC scope cl C X.env) fp) vx tv) (hs : ∀ x, foldedSetIterable iter X.env x = pure x) :
    PE X (.DictComp kx vx [⟨tg, iter, ifs, 0⟩] scope pos) (tDcG t wi g tt tk tv (own.map (·.2))) := by
  refine ⟨fun pins s σ H Q I h => ?_⟩
  rw [arm_eval_DictComp]
  have fr : ∀ y ∈ scope.names, y.2 = .free → ∃ c, X.env.cells.lookup y.1 = some c := fun y hy e => (ok.free y hy e).elim (fun k => I.ok.has _ (.inl k)) fun k => I.ok.has _ (.inr k)
  refine wpAny_comprehension_free (use := none) rfl hs (closure_ok fr) ok.kind (fun y hy e => (ok.uniq y hy).trans (congrArg some e)) (thn (hi.run pins s σ H _ I h) fun xv s1 hx => thn hx fun itv s2 ⟨it, fp, tn, J, H2, e, I2, T, st2, f2, q⟩ => ?_)
  subst e
  refine wpAny_newObj_type (newEnv_comp ?_)
  obtain ⟨Go, ⟨m0, w0⟩, turn⟩ := q s2.heap.objs.size (I2.hok.fresh (Nat.le_refl _))
  obtain ⟨s3, e3⟩ : ∃ s3 : Shared, s3 = { s2 with heap := s2.heap.push { cls := .type "dict", data := .dict #[] } } := ⟨_, rfl⟩
  obtain ⟨H3, eH⟩ : ∃ H3 : Hp, H3 = upd H2 s2.heap.objs.size (nilD t) := ⟨_, rfl⟩
  have k3 : ∀ b o, s2.heap.get? b = some o → s3.heap.get? b = some o := fun b o z => by rw [e3]; exact Heap.get?_push_of_some _ z
  have I3 : Inv X pins σ H3 s3 := by
    rw [e3, eH]
    exact I2.laid (t' := s2.toks) (fun b o z => Heap.get?_push_of_some _ z) (Nat.le_refl _) (nilD_ok t s2.heap I2.big)
  have f3 : ∀ b ∈ fp, FpOk X pins H3 b ∧ b < s3.heap.objs.size := fun b hb => by
    obtain ⟨o, eo, _⟩ := T.obj _ _ st2 b hb
    refine ⟨⟨?_, (f2 b hb).2⟩, Heap.lt_size (k3 b o eo)⟩
    rw [eH, upd_ne (Nat.ne_of_lt (Heap.lt_size eo))]
    exact (f2 b hb).1
  have I4 := block_start I3 ok hN f3
  rw [← eH] at w0
  rw [← e3]
  have b1 := hg s3 H3 s3.heap.objs.size (cellsFrom (s3.heap.objs.size + 1) scope.names (cloFrom X.env.cells scope.names [])) fp
  have b2 := ht s3 H3 s3.heap.objs.size (cellsFrom (s3.heap.objs.size + 1) scope.names (cloFrom X.env.cells scope.names [])) fp
  have b3 := hk s3 H3 s3.heap.objs.size (cellsFrom (s3.heap.objs.size + 1) scope.names (cloFrom X.env.cells scope.names [])) fp
  have b4 := hv s3 H3 s3.heap.objs.size (cellsFrom (s3.heap.objs.size + 1) scope.names (cloFrom X.env.cells scope.names [])) fp
  have st4 : tn 0 (pushCells (s3.heap.push { cls := .type "dict", data := .dict #[] }) scope.names) := T.keep _ _ _ st2 fun b _ o z => pushCells_keeps _ _ _ _ (Heap.get?_push_of_some _ (k3 b o z))
  have n4 : ∀ b ∈ fp, H3 b = none := fun b hb => (f3 b hb).1.1
  have sf : ∀ {σ' : L2.St} {H' : Hp} {s' : Shared}, Inv (X.blk s3 H3 scope (bkE X s3 scope) fp) [] σ' H' s' → (∀ b ∈ fp, H' b = none) → ∀ b ∈ fp, FpOk (X.blk s3 H3 scope (bkE X s3 scope) fp) [] H' b := fun {σ' H' s'} I' hn b hb =>
    ⟨hn b hb, (I'.ok.exf b hb).1, I'.ok.exfs b hb, .inl hb, fun x c e => (I'.ok.exf b hb).2 x c e, fun p hp => by simp at hp⟩
  have loop : codeAny (model X.prog X.w) X.A (.compLoop (.DictComp kx vx [⟨tg, iter, ifs, 0⟩] scope pos) 0 (.ref it) (.ref s2.heap.objs.size) (bkE X s3 scope)) (compPost (model X.prog X.w) X.A X.xe none (EP X pins σ Q) (.ref s2.heap.objs.size) s3.heap.objs.size)
      { s3 with heap := pushCells (s3.heap.push { cls := .type "dict", data := .dict #[] }) scope.names } := by
    refine compLoop_anyD (fun n s' => ∃ i H', Inv (X.blk s3 H3 scope (bkE X s3 scope) fp) [] (wipe σ (own.map (·.2))) H' s' ∧ tn i s'.heap ∧ (∀ b ∈ fp, H' b = none) ∧ Go i n H') ?_ m0 ⟨0, H3, I4, st4, n4, w0⟩
    intro n s5 ⟨i, H5, I5, st5, n5, w5⟩
    rcases turn i n H5 w5 with ⟨stop, done⟩ | ⟨go, step⟩
    · refine thnF (T.done (X.blk s3 H3 scope (bkE X s3 scope) fp) rfl rfl rfl hc i [] s5 _ H5 (fun _ _ => False) I5 (sf I5 n5) st5 stop) fun r s6 ⟨hr, I6⟩ => ?_
      subst hr
      have I7 : Inv X pins σ H5 s6 := I3.call' (ch := fp) I6.os I6.base I6.hok I6.bare fun b hb => ⟨(f3 b hb).1.2.2.2.1, (f3 b hb).1.2.1, (f3 b hb).1.2.2.2.2.1, (f3 b hb).1.2.2.2.2.2⟩
      have nC : H5 s3.heap.objs.size = none := I6.free
      obtain ⟨m, hn, _⟩ := I6.loc
      obtain ⟨c0, c1, c2, c3, c4, c5⟩ := I3.fpOk (H' := H5) (Nat.le_refl _) nC
      exact ⟨m, hn, fun h'' sb => ⟨.ref s2.heap.objs.size, H5, I7.turned (t' := s6.toks) (fun b o hb z => (sb.2 b hb).trans z) c0 c1 c3 c4 c5, rfl, done⟩⟩
    · refine thnF (T.item (X.blk s3 H3 scope (bkE X s3 scope) fp) rfl rfl rfl hc i [] s5 _ H5 (fun _ _ => False) I5 (sf I5 n5) st5 go) fun r s6 ⟨u, hr, h6⟩ => ?_
      subst hr
      refine thnF h6 fun _ s7 ⟨x, H7, I7, r7, y7, st7, n7⟩ => ?_
      have J7 := I7.pinned (sf I7 n7) (T.obj _ _ st7)
      refine thnF (b1.run _ s7 _ H7 x u _ J7 r7 (step x H7 y7)) fun _ s8 ⟨σ8, H8, I8, hw8, q8⟩ => ?_
      refine thnF (b2.run _ s8 σ8 H8 _ I8 q8) fun b s9 ⟨H9, I9, q9⟩ => ?_
      have fin : ∀ {s' : Shared} {H' : Hp}, Inv (X.blk s3 H3 scope (bkE X s3 scope) fp) ([] ++ pinsAt fp s7.heap) σ8 H' s' → (∃ m', m' < n ∧ Go (i + 1) m' H') → ∃ m, m < n ∧ ∃ i H', Inv (X.blk s3 H3 scope (bkE X s3 scope) fp) [] (wipe σ (own.map (·.2))) H' s' ∧ tn i s'.heap ∧ (∀ b ∈ fp, H' b = none) ∧ Go i m H' := fun {s' H'} I' ⟨m', hm, w'⟩ => by
        have pin : ∀ b ∈ fp, ∀ o, s7.heap.get? b = some o → s'.heap.get? b = some o ∧ H' b = none := fun b hb o z =>
          have p := I'.pin (b, o) (List.mem_append_right _ (List.mem_append_right _ (mem_pinsAt hb z)))
          ⟨p.1, p.2.1⟩
        refine ⟨m', hm, i + 1, H', (I'.unpinned (pins := [])).weak (by rw [← hw8, wipe_length]) (fun j v z => ?_), T.keep _ _ _ st7 fun b hb o z => (pin b hb o z).1, fun b hb => ?_, w'⟩
        · rw [← hw8] at z
          exact (wipe_some z).1
        · obtain ⟨o, z, _⟩ := T.obj _ _ st7 b hb
          exact (pin b hb o z).2
      cases b with
      | false =>
        simp only [Bool.false_eq_true, if_false] at q9 ⊢
        exact fin I9 q9
      | true =>
        simp only [if_true] at q9 ⊢
        refine thnF (b3.run _ s9 σ8 H9 _ I9 q9) fun z s10 ⟨yk, H10, I10, r10, q10⟩ => ?_
        refine thnF (b4.run _ s10 σ8 H10 _ I10 q10) fun z2 s11 ⟨yv, H11, I11, r11, H12, hp, nx⟩ => ?_
        exact dput_comp (X := X.blk s3 H3 scope (bkE X s3 scope) fp) hu I11 hp r10 r11 fun s12 I12 => fin I12 nx
  exact codeAny_compStart_dict loop (T.self X.A 0 _ _ _ st4 loop)
end
/-! ### by the clean heap -/
def dcN (next : Nat → Hc → Option (Option CV)) (tg : Tgt) (tests : M Bool) (mk mv : M CV) (env : En) (id : Nat) : Nat → Nat → Hc → Option Hc
  | 0, _, _ => none
  | n + 1, i, hp => match next i hp with
    | none => none
    | some none => some hp
    | some (some v) => match tg.f v env with
      | none => none
      | some env1 => match tests env1 hp with
        | .ok b hp1 => if b then (match mk env1 hp1 with
            | .ok q hp2 => (match mv env1 hp2 with
              | .ok y hp3 => match putH (.ref id) q y hp3 with
                | some hp4 => dcN next tg tests mk mv env id n (i + 1) hp4
                | none => none
              | _ => none)
            | _ => none) else dcN next tg tests mk mv env id n (i + 1) hp1
        | _ => none
def eDComp (t : Bool) (mi : M ITc) (tg : Tgt) (tests : M Bool) (mk mv : M CV) (own : List Nat) : M CV := fun env hp => (mi env hp).bind fun it hp =>
  match dcN it.next tg tests mk mv (wipeE env own) hp.N it.fuel 0 (hp.push (.dic t [])) with
  | some hp' => .ok (.ref hp.N) hp'
  | none => .stuck
section
variable {X : Cx} {Γ : Gx} {W : WX} {k : Nat} {F : List Nat} {ρ : Rh} {N : Nat} {H : Hp} {σ : L2.St} {env : En} {hp : Hc} {D : Ends}
theorem srh_newD {t : Bool} {p : Addr} (r : SRh Γ ρ F hp H) (h : H p = none) : SRh Γ (ext ρ hp.N p) F (hp.push (.dic t [])) (upd H p (nilD t)) := by
  cases t
  · exact r.alloc h ⟨[], upd_same, by unfold RepK; rfl⟩
  · exact r.alloc h ⟨[], upd_same, by unfold RepT; rfl⟩
theorem dput_made {ρ₀ N₀ H₀ D ρ1 hp1 H1 ρ2 hp2 H2 cq cy q y hp3} (m : Made Γ F ρ₀ N₀ H₀ D ρ1 hp1 H1) (s : Step ρ1 hp1.N H1 ρ2 hp2.N H2) (r : SRh Γ ρ2 F hp2 H2) (hq : Rep Γ ρ2 hp2.N H2 hp2.N cq q) (hy : Rep Γ ρ2 hp2.N H2 hp2.N cy y)
    (e : putH (.ref N₀) cq cy hp2 = some hp3) : ∃ H3, DPut H2 D q y H3 ∧ Made Γ F ρ₀ N₀ H₀ D ρ2 hp3 H3 := by
  have hD : ρ2 N₀ = D := (s.agree N₀ m.2.2.1).trans m.2.2.2
  have hn : N₀ < hp2.N := Nat.lt_of_lt_of_le m.2.2.1 s.le
  have hd : Rep Γ ρ2 hp2.N H2 hp2.N (.ref N₀) (.ref D) := by unfold Rep; exact ⟨hn, by rw [hD]⟩
  obtain ⟨n, H', en, _, ex, g, eN, st, r'⟩ := putH_ok r hd hq hy e
  have e1 : N₀ = n := by injection en
  subst e1
  rw [hD] at g
  exact ⟨H', g, (m.1.trans s).trans st, r', by rw [eN]; exact hn, hD⟩
theorem dcomp_ok {t : Bool} {mi : M ITc} {tg : Tgt} {tests : M Bool} {mk mv : M CV} {own : List Nat} (hsl : ∀ j ∈ tg.sl, j ∈ own) {Q : VK} (h : rd Γ W (reV Γ) (eDComp t mi tg tests mk mv own) σ H Q) :
    tDcG t (rdI Γ W mi) (rdG Γ tg) (rd Γ W0 reB tests) (rd Γ W0 (reV Γ) mk) (rd Γ W0 (reV Γ) mv) own σ H Q := by
  obtain ⟨ρ, F, hp, env, r, e, p⟩ := h
  refine ⟨ρ, F, hp, env, r, e, ?_⟩
  unfold eDComp at p
  revert p
  generalize mi env hp = z
  intro p
  cases z with
  | stuck => exact p
  | exc c fs hp' => exact p
  | ok it hp' =>
    intro ρ1 H1 J s1 r1 hJ D hD
    have e1 := e.mono s1
    have p1 : Post Γ F W σ ρ hp.N H (reV Γ) (match dcN it.next tg tests mk mv (wipeE env own) hp'.N it.fuel 0 (hp'.push (.dic t [])) with | some hp2 => .ok (.ref hp'.N) hp2 | none => .stuck) Q := p
    cases hres : dcN it.next tg tests mk mv (wipeE env own) hp'.N it.fuel 0 (hp'.push (.dic t [])) with
    | none => rw [hres] at p1; exact p1.elim
    | some hpE =>
      rw [hres] at p1
      have m0 : Made Γ F ρ1 hp'.N H1 D (ext ρ1 hp'.N D) (hp'.push (.dic t [])) (upd H1 D (nilD t)) := by
        refine ⟨?_, srh_newD r1 hD, ?_, ext_at⟩
        · rw [Hc.push_N]; exact step_alloc hD
        · rw [Hc.push_N]; exact Nat.lt_succ_self _
      refine ⟨fun i m H2 => ∃ ρ2 hp2, Made Γ F ρ1 hp'.N H1 D ρ2 hp2 H2 ∧ dcN it.next tg tests mk mv (wipeE env own) hp'.N m i hp2 = some hpE, ⟨it.fuel, _, _, m0, hres⟩, ?_⟩
      rintro i m H2 ⟨ρ2, hp2, m2, h2⟩
      cases m with
      | zero => simp [dcN] at h2
      | succ m =>
        have hi := hJ i ρ2 hp2 H2 m2.1 m2.2.1
        unfold dcN at h2
        revert hi h2
        generalize it.next i hp2 = w
        intro hi h2
        match w with
        | none => cases h2
        | some none =>
          cases h2
          refine .inl ⟨hi, p1 ρ2 H2 (.ref D) (s1.trans m2.1) m2.2.1 ?_⟩
          show Rep Γ ρ2 hpE.N H2 hpE.N (.ref hp'.N) (.ref D)
          unfold Rep
          exact ⟨m2.2.2.1, by rw [m2.2.2.2]⟩
        | some (some v) =>
          obtain ⟨go, hy⟩ := hi
          refine .inr ⟨go, fun x H4 yl => ?_⟩
          obtain ⟨s4, r4, h4⟩ := hy x H4 yl
          have e4 : SRe Γ ρ2 hp2.N H4 (L2.wipe σ own) (wipeE env own) := ((e1.mono m2.1).mono s4).wipe own
          have m4 : Made Γ F ρ1 hp'.N H1 D ρ2 hp2 H4 := ⟨m2.1.trans s4, r4, m2.2.2.1, m2.2.2.2⟩
          have h2' : (match tg.f v (wipeE env own) with
            | none => none
            | some env1 => match tests env1 hp2 with
              | .ok b hp1 => if b then (match mk env1 hp1 with
                  | .ok q hp2 => (match mv env1 hp2 with
                    | .ok y hp3 => match putH (.ref hp'.N) q y hp3 with
                      | some hp4 => dcN it.next tg tests mk mv (wipeE env own) hp'.N m (i + 1) hp4
                      | none => none
                    | _ => none)
                  | _ => none) else dcN it.next tg tests mk mv (wipeE env own) hp'.N m (i + 1) hp1
              | _ => none) = some hpE := h2
          clear h2
          split at h2'
          · cases h2'
          · rename_i env1 q1
            refine ⟨ρ2, F, hp2, _, v, env1, r4, e4, h4, q1, fun σ5 e5 a5 => ⟨wipe_agr a5 hsl, ρ2, F, hp2, env1, r4, e5, ?_⟩⟩
            split at h2'
            · rename_i b hp5 q2
              rw [q2]
              intro ρ6 H6 b' s6 r6 hb
              cases (show b = b' from hb)
              have m6 : Made Γ F ρ1 hp'.N H1 D ρ6 hp5 H6 := ⟨m4.1.trans s6, r6, Nat.lt_of_lt_of_le m4.2.2.1 s6.le, (s6.agree _ m4.2.2.1).trans m4.2.2.2⟩
              cases b with
              | false =>
                rw [if_neg Bool.false_ne_true] at h2' ⊢
                exact ⟨m, Nat.lt_succ_self m, ρ6, hp5, m6, h2'⟩
              | true =>
                rw [if_pos rfl] at h2' ⊢
                refine ⟨ρ6, F, hp5, env1, r6, e5.mono s6, ?_⟩
                split at h2'
                · rename_i q hp7 q3
                  rw [q3]
                  intro ρ8 H8 x8 s8 r8 h8
                  refine ⟨ρ8, F, hp7, env1, r8, (e5.mono s6).mono s8, ?_⟩
                  split at h2'
                  · rename_i y hp9 q4
                    rw [q4]
                    intro ρ9 H9 x9 s9 r9 h9
                    split at h2'
                    · rename_i hp10 q5
                      obtain ⟨H10, g1, g2⟩ := dput_made m6 (s8.trans s9) r9 (h8.mono s9 (Nat.le_refl _) s9.le) h9 q5
                      exact ⟨H10, g1, m, Nat.lt_succ_self m, ρ9, hp10, g2, h2'⟩
                    · cases h2'
                  · cases h2'
                · cases h2'
            · cases h2'
theorem sim_dcomp [S : Sx X Γ W k] {t : Bool} {kx vx tg iter : Expr} {ifs : List Expr} {scope : Scope} {own : List (Str × Nat)} {pos : Pos} {mi : M ITc} {tc : Tgt} {mt : M Bool} {mk mv : M CV} (ok : BlkOk X.N X.env.scope scope own) (hi : SimI X Γ W tg iter mi)
    (hg : ∀ (s : Shared) (H : Hp) (C : Addr) (cl : List (Str × Addr)) (fp : List Addr), SimG (X.blk s H scope (compEnvC scope cl C X.env) fp) Γ tg tc)
    (ht : ∀ (s : Shared) (H : Hp) (C : Addr) (cl : List (Str × Addr)) (fp : List Addr), SimTs (X.blk s H scope (compEnvC scope cl C X.env) fp) Γ W0 ifs mt)
    (hk : ∀ (s : Shared) (H : Hp) (C : Addr) (cl : List (Str × Addr)) (fp : List Addr), SimE (X.blk s H scope (compEnvC scope cl C X.env) fp) Γ W0 kx mk)
    (hv : ∀ (s : Shared) (H : Hp) (C : Addr) (cl : List (Str × Addr)) (fp : List Addr), SimE (X.blk s H scope (compEnvC scope cl C X.env) fp) Γ W0 vx mv)
    (hsl : ∀ j ∈ tc.sl, j ∈ own.map (·.2) := by decide) (hs : ∀ x, foldedSetIterable iter X.env x = pure x := by intro _; rfl) : SimE X Γ W (.DictComp kx vx [⟨tg, iter, ifs, 0⟩] scope pos) (eDComp t mi tc mt mk mv (own.map (·.2))) :=
  pe_imp (pe_dcG S.calm S.nd (by have := S.room.un; omega) hi ok hg ht hk hv hs) fun _ _ _ q => dcomp_ok hsl q
end
end Bl

/-! Own layer, part Y: dict(a list of pairs), keys of either kind; len of a dict. -/
namespace Bl
open PySem PySem.Spec PyProof.Rows L2
section
variable {X : Cx}
/-- the pairs' turns: G i: ahead of the i-th -/
theorem dup_walk {A : Around} {R : Result → Shared → Prop} {pins : List (Addr × Obj)} {σ : L2.St} {D it l : Addr} {xs : List V} {res : Value} {G : Nat → Hp → Prop} (hh : A.handled = none) (hu : A.units + 64 < cLine)
    (hl : ∀ i H, G i H → SqL X.K H l xs) (step : ∀ i H, G i H → ∀ x, xs[i]? = some x → ∃ p y v H', x = .ref p ∧ SqT X.K H p [y, v] ∧ DPut H D y v H' ∧ G (i + 1) H')
    (fin : ∀ H s, G xs.length H → Inv X pins σ H s → R (.ok (.ret res)) s) :
    ∀ (n i : Nat) (H : Hp) (ix : Int) (t : Tok) (s : Shared), xs.length = i + n → G i H → Inv X pins σ H s → FpOk X pins H it → s.heap.IsListIter it l i → codeAny (model X.prog X.w) A (.builtin "dict.update.loop" ⟨[.ref D, .ref it, .int ix t, res], []⟩) R s := by
  intro n
  induction n with
  | zero =>
    intro i H ix t s hn g I f hit
    obtain ⟨its, rv, pl, hz⟩ := I.list (hl i H g)
    have len : its.length = xs.length := rv.length.symm
    refine codeAny_builtin ud_entry ?_
    rw [Around.under_plainId ud_plain _]
    refine wpAny_bind (wpAny_pyNext_list_end (A := A.in1) hh hit pl.isList (Array.getElem?_eq_none (by rw [List.size_toArray]; omega)) fun h' he => ?_)
    refine wpAny_bind (wpAny_pure (wpAny_pure ?_))
    have e : i = xs.length := by omega
    subst e
    obtain ⟨f0, f1, f2, f3, f4, f5⟩ := f
    exact fin H _ g (I.turned (t' := s.toks) (fun b o hb e => he b o hb e) f0 f1 f3 f4 f5)
  | succ n ih =>
    intro i H ix t s hn g I f hit
    obtain ⟨its, rv, pl, hz⟩ := I.list (hl i H g)
    have hi : i < xs.length := by omega
    have ex : xs[i]? = some xs[i] := List.getElem?_eq_getElem hi
    obtain ⟨p, y, v, H', ep, ht, hp, g'⟩ := step i H g _ ex
    obtain ⟨u, eu, ru⟩ := rv.get ex
    rw [ep] at ru
    have eu' : u = Value.ref p := ru
    subst eu'
    refine codeAny_builtin ud_entry ?_
    rw [Around.under_plainId ud_plain _]
    refine wpAny_bind (wpAny_pyNext_list_item (x := .ref p) hit pl.isList (by rw [List.getElem?_toArray]; exact eu) fun h1 hit1 hs1 => ?_)
    obtain ⟨f0, f1, f2, f3, f4, f5⟩ := id f
    have I1 : Inv X pins σ H { s with heap := h1 } := I.turned (t' := s.toks) (fun b o hb e => (hs1.2 b hb).trans e) f0 f1 f3 f4 f5
    obtain ⟨ts, rt, tt, _⟩ := I1.tuple ht
    obtain ⟨uy, uv, rfl, ry, rvv⟩ := vals2 rt
    obtain ⟨o, ho, hc, m, hd⟩ := id tt
    refine wpAny_bind (wpAny_holding ?_)
    refine wpAny_bind (wpAny_tryCatch ?_)
    unfold Builtin.Dict.pairItems
    refine wpAny_bind (wpAny_typeOf (T := "tuple") ⟨o, ho, hc⟩ ?_)
    rw [if_pos (by first | decide | rfl | simp)]
    refine wpAny_bind (wpAny_seqItems ho hd (wpAny_pure ?_))
    show wpAny _ A.in1 (holding [uy, uv] (dictSet D uy uv)) _ _ _
    have pin : ∀ b ∈ [it], FpOk X pins H b := fun b hb => by rw [List.mem_singleton.mp hb]; exact f
    obtain ⟨oi, ei, ci, di⟩ := id hit1
    have J := I1.pinned pin fun b hb => by
      rw [List.mem_singleton.mp hb]
      exact ⟨oi, ei, fun v z => by rw [di] at z; cases z⟩
    refine wpAny_holding (dput_comp (show A.units + 1 + 1 < cLine by omega) J hp ry rvv fun s2 I2 => ?_)
    have q := I2.pin (it, oi) (List.mem_append_right _ (List.mem_append_right _ (mem_pinsAt (List.mem_singleton.mpr rfl) ei)))
    refine wpAny_pure ⟨plainId_quiet ud_plain _, ih (i + 1) H' _ _ s2 (by omega) g' I2.unpinned ⟨q.2.1, f1, f2, f3, f4, f5⟩ ⟨oi, q.1, ci, di⟩⟩
/-- dict(l) -/
def rDictG (K : PySem.W.Frag) (t : Bool) : List V → Hp → VK → Prop := fun vs H Q => ∃ (l : Addr) (xs : List V), vs = [.ref l] ∧ SqL K H l xs ∧ ∀ D, H D = none → ∃ G : Nat → Hp → Prop, G 0 (upd H D (nilD t)) ∧ (∀ i H, G i H → SqL K H l xs) ∧
  (∀ i H, G i H → ∀ x, xs[i]? = some x → ∃ p y v H', x = .ref p ∧ SqT K H p [y, v] ∧ DPut H D y v H' ∧ G (i + 1) H') ∧ ∀ H, G xs.length H → Q (.ref D) H
theorem call_dictG {t : Bool} (hc : X.calm = true) (hu : X.A.units + 100 < cLine) : CallR X (.type "dict") (rDictG X.K t) := by
  intro pins s σ H vs us Q I r q
  obtain ⟨l, xs, rfl, hq, q⟩ := q
  obtain ⟨u, rfl, rx⟩ := vals1 r
  cases rx
  obtain ⟨its, rv, pl, hz⟩ := I.list hq
  obtain ⟨ol, nl, hol, hcl, hdl, hdatl⟩ := pl
  have nD : H s.heap.objs.size = none := I.hok.fresh (Nat.le_refl _)
  obtain ⟨G, g0, gl, gs, gf⟩ := q s.heap.objs.size nD
  refine callType_codes (Q₁ := fun obj s₁ => obj = .ref s.heap.objs.size ∧ s₁ = { s with heap := s.heap.push { cls := .type "dict", data := .dict #[] } }) PySem.F.kt_called_dict (PySem.F.kt_typeCall_dict_1 _) PySem.F.entry_dict_init (kt_code_dict_new _ ⟨rfl, rfl⟩) ?_
  intro obj s₁ ⟨e1, e2⟩
  subst e1 e2
  have I1 : Inv X pins σ (upd H s.heap.objs.size (nilD t)) { s with heap := s.heap.push { cls := .type "dict", data := .dict #[] } } :=
    I.laid (t' := s.toks) (fun b o z => Heap.get?_push_of_some _ z) (Nat.le_refl _) (nilD_ok t s.heap I.big)
  have ty : Shared.TypeIs { s with heap := s.heap.push { cls := .type "dict", data := .dict #[] } } (.ref s.heap.objs.size) "dict" := ⟨_, Heap.get?_push_size _ rfl, rfl⟩
  refine ⟨ty, PySem.F.args_dict_init_2 _ _, ?_⟩
  unfold Builtin.«dict.__init__»
  refine wpAny_bind ?_
  unfold Builtin.Dict.selfAndRest
  refine wpAny_bind (wpAny_notOrdered_dict ty ?_)
  refine wpAny_pure ?_
  show wpAny _ _ (Builtin.Dict.updateFrom "dict.__init__" s.heap.objs.size (.ref l) [] .none) _ _ _
  unfold Builtin.Dict.updateFrom
  have kl : (s.heap.push { cls := .type "dict", data := .dict #[] }).get? l = some ol := Heap.get?_push_of_some _ hol
  refine wpAny_bind (wpAny_typeOf (T := "list") ⟨ol, kl, hcl⟩ ?_)
  rw [if_pos (by first | decide | rfl | simp)]
  refine wpAny_bind (miss_list kl hcl hdatl hdl (I.ok.hd hc) fun h1 tk1 hk1 => ?_)
  rw [if_pos (show (none : Option Value).isNone = true from rfl)]
  refine wpAny_bind (wpAny_rule ?_)
  have I2 : Inv X pins σ (upd H s.heap.objs.size (nilD t)) { s with heap := h1, toks := tk1 } := I1.kept hk1
  refine wpAny_bind (wpAny_pyIter_list ⟨ol, hk1 _ _ kl, hcl, nl, hdatl⟩ ?_)
  have I3 : Inv X pins σ (upd H s.heap.objs.size (nilD t)) { s with heap := h1.push { cls := .type "list_iterator", data := .fields #[.ref l, .int 0 0] }, toks := tk1 } := I2.kept (t' := tk1) fun b o z => Heap.get?_push_of_some _ z
  have fi : FpOk X pins (upd H s.heap.objs.size (nilD t)) h1.objs.size := I2.fpOk (Nat.le_refl _) (I2.hok.fresh (Nat.le_refl _))
  have key := dup_walk (X := X) (A := X.A.in1) (R := wants (fun r s₂ => r = .none ∧ EP X pins σ Q (.ref s.heap.objs.size) s₂) X.xe) (pins := pins) (σ := σ) (D := s.heap.objs.size) (it := h1.objs.size) (l := l) (xs := xs) (res := Value.none) (G := G) (I.ok.hd hc) (show X.A.units + 1 + 64 < cLine by omega) gl gs
    (fun H' s' g' I' => ⟨rfl, .ref s.heap.objs.size, H', I', rfl, gf H' g'⟩) xs.length 0 _ 0 0 _ (by omega) g0 I3 fi ⟨_, Heap.get?_push_size _ rfl, rfl, rfl⟩
  first
    | exact wpAny_pure ⟨plainId_quiet ud_plain _, key⟩
    | exact wpAny_bind (wpAny_pure (wpAny_pure ⟨plainId_quiet ud_plain _, key⟩))
end
/-! ### one of two readings of a built-in -/
def bOr (f g : List CV → Hc → R CV) : List CV → Hc → R CV := fun as hp => match f as hp with
  | .stuck => g as hp
  | r => r
section
variable {X : Cx} {Γ : Gx} {W : WX} {k : Nat} {F : List Nat} {ρ : Rh} {N : Nat} {H : Hp} {σ : L2.St} {env : En} {hp : Hc} {D : Ends}
theorem callC_or {fn : Value} {f g : List CV → Hc → R CV} (a : CallC X Γ W fn f) (b : CallC X Γ W fn g) : CallC X Γ W fn (bOr f g) := by
  obtain ⟨r1, c1, v1⟩ := a
  obtain ⟨r2, c2, v2⟩ := b
  refine ⟨fun xs H Q => r1 xs H Q ∨ r2 xs H Q, fun pins s σ H xs us Q I rr h => h.elim (c1 pins s σ H xs us Q I rr) (c2 pins s σ H xs us Q I rr), fun σ ρ F hp H as xs Q r h p => ?_⟩
  unfold bOr at p
  cases e : f as hp with
  | stuck => rw [e] at p; exact .inr (v2 σ ρ F hp H as xs Q r h p)
  | ok v hp' => rw [e] at p; exact .inl (v1 σ ρ F hp H as xs Q r h (by rw [e]; exact p))
  | exc c fs hp' => rw [e] at p; exact .inl (v1 σ ρ F hp H as xs Q r h (by rw [e]; exact p))
/-! ### len of a dict -/
def bLenD : List CV → Hc → R CV
  | [x], hp => match dOf hp x with
    | some (_, kvs) => .ok (.int kvs.length) hp
    | none => .stuck
  | _, _ => .stuck
theorem call_lenK : CallR X (.builtin "len") (fun xs H Q => ∃ (p : Addr) (kvs : List (Key × V)), xs = [.ref p] ∧ Rd H p (.dK kvs) ∧ Q (.int ((kvs.length : Nat) : Int)) H) := by
  intro pins s σ H xs us Q I r h
  obtain ⟨p, kvs, rfl, hp, q⟩ := h
  obtain ⟨u, rfl, rx⟩ := vals1 r
  cases rx
  exact d_len I hp fun t s' I' => ⟨.int ((kvs.length : Nat) : Int), H, I', ⟨t, rfl⟩, q⟩
theorem call_lenT : CallR X (.builtin "len") (fun xs H Q => ∃ (p : Addr) (kvs : List (List Key × V)), xs = [.ref p] ∧ Rd H p (.dT kvs) ∧ Q (.int ((kvs.length : Nat) : Int)) H) := by
  intro pins s σ H xs us Q I r h
  obtain ⟨p, kvs, rfl, hp, q⟩ := h
  obtain ⟨u, rfl, rx⟩ := vals1 r
  cases rx
  obtain ⟨z, hd, ys, rel, dd⟩ := dt_rd I.hok hp
  have hl : kvs.length = ys.length := Paired.length rel
  refine call_len_dictH hd dd (by rw [← hl]; rw [sizeLine_eq] at z; omega) ?_
  rw [← hl]
  exact ⟨.int ((kvs.length : Nat) : Int), H, I.tok _, ⟨_, rfl⟩, q⟩
theorem bc_lenD : CallC X Γ W (.builtin "len") bLenD := by
  refine ⟨fun xs H Q => (∃ (p : Addr) (kvs : List (Key × V)), xs = [.ref p] ∧ Rd H p (.dK kvs) ∧ Q (.int ((kvs.length : Nat) : Int)) H) ∨ (∃ (p : Addr) (kvs : List (List Key × V)), xs = [.ref p] ∧ Rd H p (.dT kvs) ∧ Q (.int ((kvs.length : Nat) : Int)) H),
    fun pins s σ H xs us Q I rr h => h.elim (call_lenK pins s σ H xs us Q I rr) (call_lenT pins s σ H xs us Q I rr), fun σ ρ F hp H as xs Q r h p => ?_⟩
  unfold bLenD at p
  split at p
  · obtain ⟨v, rfl, h1⟩ := h.one
    split at p
    · rename_i t kvs e
      cases t with
      | false =>
        obtain ⟨a, ds, rfl, h2, h3⟩ := dOf_k r h1 e
        exact .inl ⟨a, ds, rfl, h2, by rw [← h3.len]; exact p.ok r repI⟩
      | true =>
        obtain ⟨a, ds, rfl, h2, h3⟩ := dOf_t r h1 e
        exact .inr ⟨a, ds, rfl, h2, by rw [← h3.len]; exact p.ok r repI⟩
    · exact p.elim
  · exact p.elim
/-! ### dict(l) -/
def dictN (id : Nat) : List CV → Hc → Option Hc
  | [], hp => some hp
  | .tup [a, b] :: r, hp => match putH (.ref id) a b hp with
    | some hp' => dictN id r hp'
    | none => none
  | _ :: _, _ => none
def bDict (t : Bool) : List CV → Hc → R CV
  | [x], hp => match x with
    | .tup _ => .stuck
    | .wtp _ => .stuck
    | x => match seqItems hp x with
      | some xs => (match dictN hp.N xs (hp.push (.dic t [])) with
        | some hp' => .ok (.ref hp.N) hp'
        | none => .stuck)
      | none => .stuck
  | _, _ => .stuck
theorem sqL_upd {K : PySem.W.Frag} {a D : Addr} {u : HO} {xs : List V} (h : SqL K H a xs) (hD : ∀ ys, ¬ Rd H D (.lst ys)) : SqL K (upd H D u) a xs := by
  rcases h with h | h
  · have ne : a ≠ D := fun e => hD xs (e ▸ h)
    exact .inl (h.imp (fun e => by rw [upd_ne ne]; exact e) fun ⟨o, e⟩ => ⟨o, by rw [upd_ne ne]; exact e⟩)
  · exact .inr h
theorem dput_list {D : Addr} {y v : V} (h : DPut H D y v H') : (∃ u, H' = upd H D u) ∧ ∀ ys, ¬ Rd H D (.lst ys) := by
  rcases h with ⟨kvs, k, e, _, _, rfl⟩ | ⟨kvs, k, b, e, _, _, _, rfl⟩ <;>
    exact ⟨⟨_, rfl⟩, fun ys z => by rcases z with z | ⟨o, z⟩ <;> (rw [e] at z; cases z)⟩
theorem Reps.at {ρ : Rh} {N : Nat} {H : Hp} {m : Nat} : ∀ {xs : List CV} {vs : List V} {i : Nat} {v : V}, Reps Γ ρ N H m xs vs → vs[i]? = some v → ∃ x, xs[i]? = some x ∧ Rep Γ ρ N H m x v
  | [], vs, i, v, h, e => by unfold Reps at h; subst h; cases e
  | x :: xs, vs, 0, v, h, e => by
    unfold Reps at h
    obtain ⟨w, r, rfl, h1, h2⟩ := h
    cases e
    exact ⟨x, rfl, h1⟩
  | x :: xs, vs, i + 1, v, h, e => by
    unfold Reps at h
    obtain ⟨w, r, rfl, h1, h2⟩ := h
    exact Reps.at (xs := xs) h2 e
theorem drop_at {α : Type} : ∀ {l : List α} {i : Nat} {x : α}, l[i]? = some x → l.drop i = x :: l.drop (i + 1)
  | [], i, x, h => by cases h
  | a :: l, 0, x, h => by cases h; rfl
  | a :: l, i + 1, x, h => by
    rw [List.drop_succ_cons, List.drop_succ_cons]
    exact drop_at (l := l) h
theorem bc_dict [S : Sx X Γ W k] {t : Bool} : CallC X Γ W (.type "dict") (bDict t) := ⟨_, call_dictG (t := t) S.calm (by have := S.room.un; omega), fun σ ρ F hp H as xs Q r h p => by
  unfold bDict at p
  split at p
  · rename_i x
    obtain ⟨v, rfl, h1⟩ := h.one
    split at p
    · exact p.elim
    · exact p.elim
    · rename_i hn hw
      split at p
      · rename_i cs e
        split at p
        · rename_i hpE eE
          obtain ⟨l, vs, rfl, h2, h3⟩ := seqItems_list r (fun ys z => hn ys z) (fun ys z => hw ys z) e h1
          rw [S.K]
          refine ⟨l, vs, rfl, h2, fun D hD => ?_⟩
          have m0 : Made Γ F ρ hp.N H D (ext ρ hp.N D) (hp.push (.dic t [])) (upd H D (nilD t)) := by
            refine ⟨?_, srh_newD r hD, ?_, ext_at⟩
            · rw [Hc.push_N]; exact step_alloc hD
            · rw [Hc.push_N]; exact Nat.lt_succ_self _
          refine ⟨fun i H2 => ∃ ρ2 hp2, Made Γ F ρ hp.N H D ρ2 hp2 H2 ∧ SqL Γ.K H2 l vs ∧ dictN hp.N (cs.drop i) hp2 = some hpE, ⟨_, _, m0, sqL_upd h2 fun ys z => ?_, eE⟩, fun i H2 ⟨_, _, _, z, _⟩ => z, fun i H2 ⟨ρ2, hp2, m2, l2, d2⟩ x ex => ?_, fun H2 ⟨ρ2, hp2, m2, l2, d2⟩ => ?_⟩
          · rcases z with z | ⟨o, z⟩ <;> (rw [hD] at z; cases z)
          · obtain ⟨c, ec, hc⟩ := Reps.at h3 ex
            have hc2 : Rep Γ ρ2 hp2.N H2 hp2.N c x := hc.mono m2.1 (Nat.le_refl _) m2.1.le
            rw [drop_at ec] at d2
            unfold dictN at d2
            split at d2
            · rename_i eq; cases eq
            · rename_i a b r' q1
              injection q1 with q2 q3
              subst q2 q3
              unfold Rep at hc2
              obtain ⟨ta, ws, rfl, ht, hw2⟩ := hc2
              unfold Reps at hw2
              obtain ⟨y, w', rfl, hy, hw3⟩ := hw2
              unfold Reps at hw3
              obtain ⟨v', w'', rfl, hv, hw4⟩ := hw3
              unfold Reps at hw4
              subst hw4
              split at d2
              · rename_i hp3 e3
                obtain ⟨H3, g1, g2⟩ := dput_made m2 Step.refl m2.2.1 hy hv e3
                obtain ⟨⟨u, eu⟩, nl⟩ := dput_list g1
                exact ⟨ta, y, v', H3, rfl, sqT_of ht, g1, ρ2, hp3, g2, by rw [eu]; exact sqL_upd l2 nl, d2⟩
              · cases d2
            · cases d2
          · rw [List.drop_eq_nil_of_le (by rw [h3.len]; exact Nat.le_refl _)] at d2
            cases d2
            refine p ρ2 H2 (.ref D) m2.1 m2.2.1 ?_
            show Rep Γ ρ2 hpE.N H2 hpE.N (.ref hp.N) (.ref D)
            unfold Rep
            exact ⟨m2.2.2.1, by rw [m2.2.2.2]⟩
        · exact p.elim
      · exact p.elim
  · exact p.elim⟩
end
end Bl

/-! Own layer, part Z: rows of values however they stand; sorted of them. -/
namespace Bl
open PySem PySem.Spec PyProof.Rows L2
/-! ### sorting, plainly -/
def insB {α : Type} (le : α → α → Bool) (a : α) : List α → List α
  | [] => [a]
  | b :: r => if le a b = true then a :: b :: r else b :: insB le a r
def sortB {α : Type} (le : α → α → Bool) : List α → List α
  | [] => []
  | a :: r => insB le a (sortB le r)
section
variable {α : Type} {le : α → α → Bool}
theorem insB_perm (a : α) : ∀ l : List α, (insB le a l).Perm (a :: l)
  | [] => List.Perm.refl _
  | b :: r => by
    unfold insB
    split
    · exact List.Perm.refl _
    · exact ((insB_perm a r).cons b).trans (List.Perm.swap a b r)
theorem sortB_perm : ∀ l : List α, (sortB le l).Perm l
  | [] => List.Perm.refl _
  | a :: r => (insB_perm a _).trans ((sortB_perm r).cons a)
theorem insB_pw (tot : ∀ a b, le a b = true ∨ le b a = true) (tr : ∀ a b c, le a b = true → le b c = true → le a c = true) (a : α) : ∀ l : List α, l.Pairwise (fun x y => le x y = true) → (insB le a l).Pairwise fun x y => le x y = true
  | [], _ => List.pairwise_singleton _ _
  | b :: r, h => by
    obtain ⟨h1, h2⟩ := List.pairwise_cons.mp h
    unfold insB
    split
    · rename_i e
      refine List.pairwise_cons.mpr ⟨fun x hx => ?_, h⟩
      rcases List.mem_cons.mp hx with rfl | hx
      · exact e
      · exact tr _ _ _ e (h1 x hx)
    · rename_i e
      have e' : le b a = true := (tot a b).resolve_left e
      refine List.pairwise_cons.mpr ⟨fun x hx => ?_, insB_pw tot tr a r h2⟩
      rcases List.mem_cons.mp ((insB_perm a r).mem_iff.mp hx) with rfl | hx
      · exact e'
      · exact h1 x hx
theorem sortB_pw (tot : ∀ a b, le a b = true ∨ le b a = true) (tr : ∀ a b c, le a b = true → le b c = true → le a c = true) : ∀ l : List α, (sortB le l).Pairwise fun x y => le x y = true
  | [] => List.Pairwise.nil
  | a :: r => insB_pw tot tr a _ (sortB_pw tot tr r)
theorem perm_one {r : α → α → Prop} (anti : ∀ a b, r a b → r b a → a = b) : ∀ {l m : List α}, l.Perm m → l.Pairwise r → m.Pairwise r → l = m
  | [], m, h, _, _ => (List.nil_perm.mp h).symm
  | a :: l, [], h, _, _ => absurd (List.perm_nil.mp h) (by simp)
  | a :: l, b :: m, h, hl, hm => by
    obtain ⟨a1, a2⟩ := List.pairwise_cons.mp hl
    obtain ⟨b1, b2⟩ := List.pairwise_cons.mp hm
    have e : a = b := by
      rcases List.mem_cons.mp (h.mem_iff.mp List.mem_cons_self) with e | ha
      · exact e
      · rcases List.mem_cons.mp (h.mem_iff.mpr List.mem_cons_self) with e | hb
        · exact e.symm
        · exact anti _ _ (a1 b hb) (b1 a ha)
    subst e
    rw [perm_one anti h.cons_inv a2 b2]
end
def leI (a b : Int) : Bool := decide (a ≤ b)
def leP (a b : Int × Int) : Bool := if a.1 = b.1 then decide (a.2 ≤ b.2) else decide (a.1 < b.1)
theorem leP_iff {a b : Int × Int} : leP a b = true ↔ a.1 < b.1 ∨ (a.1 = b.1 ∧ a.2 ≤ b.2) := by
  unfold leP
  by_cases e : a.1 = b.1
  · rw [if_pos e, decide_eq_true_eq]; omega
  · rw [if_neg e, decide_eq_true_eq]; omega
theorem sortI_one {l m : List Int} (h : m.Perm l) (p : m.Pairwise (· ≤ ·)) : m = sortB leI l := by
  refine perm_one (r := fun a b => leI a b = true) (fun a b h1 h2 => ?_) (h.trans (sortB_perm l).symm) (p.imp fun {a b} z => decide_eq_true z) (sortB_pw (fun a b => ?_) (fun a b c h1 h2 => ?_) l)
  · have h1 := of_decide_eq_true h1; have h2 := of_decide_eq_true h2; omega
  · show decide (a ≤ b) = true ∨ decide (b ≤ a) = true
    rw [decide_eq_true_eq, decide_eq_true_eq]; omega
  · have h1 := of_decide_eq_true h1; have h2 := of_decide_eq_true h2; exact decide_eq_true (by omega)
theorem sortP_one {l m : List (Int × Int)} (h : m.Perm l) (p : m.Pairwise fun a b => leP a b = true) : m = sortB leP l := by
  refine perm_one (r := fun a b => leP a b = true) (fun a b h1 h2 => ?_) (h.trans (sortB_perm l).symm) p (sortB_pw (fun a b => ?_) (fun a b c h1 h2 => ?_) l)
  · rw [leP_iff] at h1 h2
    exact Prod.ext (by omega) (by omega)
  · rw [leP_iff, leP_iff]; omega
  · rw [leP_iff] at *; omega

/-! ### rows -/
/-- the values that the row at p gives; of a dict: its keys -/
def RowsR (K : PySem.W.Frag) (H : Hp) (p : Addr) (RV : List V → Prop) : Prop :=
  (∃ vs, (SqL K H p vs ∨ SqT K H p vs) ∧ RV vs) ∨ (∃ kvs : List (Key × V), Rd H p (.dK kvs) ∧ RV (kvs.map fun q => kV q.1)) ∨ ∃ kvs : List (List Key × V), Rd H p (.dT kvs) ∧ ∀ bs, IsKeys H kvs bs → RV (bs.map V.ref)
section
variable {X : Cx} {pins : List (Addr × Obj)} {σ : L2.St} {H : Hp} {s : Shared} {E : Value → Shared → Prop}
theorem collect_rows {p : Addr} {RV : List V → Prop} (hc : X.calm = true) (I : Inv X pins σ H s) (h : RowsR X.K H p RV) :
    ∃ vs, RV vs ∧ ∀ (A : Around) (Q : List Value → Shared → Prop), A.handled = none → (∀ h' tk, (∀ b o, s.heap.get? b = some o → h'.get? b = some o) → ∀ us', Vals vs us' → us'.length ≤ sizeLine → Q us' { s with heap := h', toks := tk }) → wpAny (model X.prog X.w) A (collect (.ref p)) Q E s := by
  rcases h with ⟨vs, h | h, rv⟩ | ⟨kvs, hd, rv⟩ | ⟨kvs, hd, rv⟩
  · obtain ⟨its, r, pl, hz⟩ := I.list h
    obtain ⟨o, n, ho, hcl, _, hdat⟩ := pl
    refine ⟨vs, rv, fun A Q hA hq => ?_⟩
    exact wpAny_collect_seq p (.inl rfl) ho hcl hdat (fun h' hk => hq h' s.toks hk its r (by rw [← r.length]; exact hz)) (by rw [List.size_toArray, ← r.length]; exact hz)
  · obtain ⟨its, r, pl, hz⟩ := I.tuple h
    obtain ⟨o, ho, hcl, n, hdat⟩ := pl
    refine ⟨vs, rv, fun A Q hA hq => ?_⟩
    exact wpAny_collect_seq p (.inr rfl) ho hcl hdat (fun h' hk => hq h' s.toks hk its r (by rw [← r.length]; exact hz)) (by rw [List.size_toArray, ← r.length]; exact hz)
  · obtain ⟨z, lo, ks, rk, dd⟩ := dk_rd I.hok hd
    obtain ⟨ep, hat⟩ := dd.dictAt
    have hl : kvs.length = ks.length := rk.length
    have each : ∀ acc : Array Value, ItemsOf (fun i v => ∃ k x, ks[i]? = some (k, x) ∧ (mixKind X.prog X.w).is k v = true) acc ks.length → Vals (kvs.map fun q => kV q.1) acc.toList := fun acc hacc => by
      refine vals_of_at (by rw [List.length_map, hl, ← hacc.1]; simp) fun j x w h1 h2 => ?_
      obtain ⟨k, y, hky, hi⟩ := hacc.2 j w (by rw [← Array.getElem?_toList]; exact h2)
      have e1 : (kvs.map (·.1))[j]? = some k := by
        rw [KV.keys rk, List.getElem?_map, hky] <;> rfl
      rw [List.getElem?_map] at h1 e1
      cases e : kvs[j]? with
      | none => rw [e] at h1; cases h1
      | some q =>
        rw [e] at h1 e1
        cases h1
        cases e1
        exact keyIs_rel hi
    refine ⟨_, rv, fun A Q hA hq => ?_⟩
    exact PySem.W.kdu_collect (A := A) (PySem.W.kdl_dict (knd := mixKind X.prog X.w) (kvs := ks) (ep := ep) lo) hA hat (by rw [← hl]; exact z) fun h' tk acc hk hacc => hq h' tk hk _ (each acc hacc) (by rw [← (each acc hacc).length, List.length_map]; exact z)
  · obtain ⟨z, hs, ks, pr, o, es, ep, ho, hx, hdt, he, hn⟩ := (show ObjOk X.prog X.w H s.heap p (.dT kvs) from hd.ok I.hok)
    have l1 : es.size = ks.length := size_of_entries he
    have l2 : kvs.length = ks.length := Paired.length pr
    have hb := rv _ (isKeys_of pr)
    have each : ∀ acc : Array Value, ItemsOf (fun i v => ∃ en : DictEntry, es[i]? = some en ∧ v = en.key) acc es.size → acc.toList = (ks.map fun x => x.2.1).map Value.ref := fun acc it => by
      have hl : acc.toList.length = ks.length := by
        have h0 : acc.toList.length = acc.size := by simp
        rw [h0, it.1]; exact l1
      refine List.ext_getElem? fun j => ?_
      rw [List.getElem?_map, List.getElem?_map]
      cases hj : acc.toList[j]? with
      | none =>
        rw [List.getElem?_eq_none (l := ks) (by rw [← hl]; exact List.getElem?_eq_none_iff.mp hj)] <;> rfl
      | some v =>
        obtain ⟨en, hen, hv⟩ := it.2 j v (by rw [← Array.getElem?_toList]; exact hj)
        have qe := entry_at he j
        rw [hen] at qe
        cases hb : ks[j]? with
        | none => rw [hb] at qe; cases qe
        | some b =>
          rw [hb] at qe
          have e2 : en = entryOfKey (tupleKind (mixKind X.prog X.w)) b := Option.some.inj qe
          rw [hv, e2] <;> rfl
    refine ⟨_, hb, fun A Q hA hq => ?_⟩
    refine PySem.W.kdu_collect (A := A) (kdl_raw hs hx hdt) hA ho (by omega) fun h' tk acc hk hacc => hq h' tk hk _ (by rw [each acc hacc]; exact vals_refs _) (by rw [each acc hacc, List.length_map, List.length_map]; omega)
open SrtO in
/-- sorted of a row -/
theorem sorted_rows {A : Around} {p : Addr} {vs : List V} {lt : List Value → Value → Value → Bool} {Q : Value → Shared → Prop} (I : Inv X pins σ H s) (hh : A.handled = none)
    (hcol : ∀ (A : Around) (Q : List Value → Shared → Prop), A.handled = none → (∀ h' tk, (∀ b o, s.heap.get? b = some o → h'.get? b = some o) → ∀ us', Vals vs us' → us'.length ≤ sizeLine → Q us' { s with heap := h', toks := tk }) → wpAny (model X.prog X.w) A (collect (.ref p)) Q E s)
    (O : ∀ us, Vals vs us → Swo (lt us)) (hS : ∀ us (s' : Shared) (a : Addr), Vals vs us → 2 ≤ us.length → Inv X pins σ H s' → s'.heap.get? a = some (seqObj "list" us.toArray 0) → SortableO X.prog X.w A.in1.in1 { s' with heap := s'.heap } a us (lt us))
    (h : ∀ us out d s', Vals vs us → Srtd (lt us) out → Stb (lt us) out us → H d = none → (∀ ys, Vals ys out → ys.length ≤ sizeLine → Inv X pins σ (upd H d (.lst ys)) s') → us.length ≤ sizeLine → Q (.ref d) s') :
    wpAny (model X.prog X.w) A (call (.builtin "sorted") [.ref p]) Q E s := by
  refine Calls.call_function_entry kind_sorted plain_sorted entry_sorted (args_sorted1 _) ?_
  unfold Builtin.«sorted»
  refine wpAny_bind (m := checkCount "sorted" 1 1 _) (wpAny_pure ?_)
  refine wpAny_bind (hcol A.in1 _ hh fun h' tk hk us rv hz => ?_)
  have I1 : Inv X pins σ H { s with heap := h', toks := tk } := I.kept hk
  refine wpAny_bind (wpAny_newList ?_ hz)
  have hoL : (h'.push (seqObj "list" us.toArray 0)).get? h'.objs.size = some (seqObj "list" us.toArray 0) := Heap.get?_push_size _ rfl
  have I2 : Inv X pins σ H { s with heap := h'.push (seqObj "list" us.toArray 0), toks := tk } := I1.kept (t' := tk) fun b o e => Heap.get?_push_of_some _ e
  show wpAny _ _ _ _ _ { s with heap := h'.push (seqObj "list" us.toArray 0), toks := tk }
  refine wpAny_bind (wpAny_holding (wpAny_call_entry slot_list_sort ⟨_, hoL, rfl⟩ entry_list_sort
    (list_sort_ord (s := { s with heap := h'.push (seqObj "list" us.toArray 0), toks := tk }) (O us rv) hoL hz (fun h2 => hS us { s with heap := h'.push (seqObj "list" us.toArray 0), toks := tk } h'.objs.size rv h2 I2 hoL) fun out hs hb => ⟨_, rfl, ?_⟩) (args_list_sort _)))
  obtain ⟨e', he'⟩ := sortedHeap_at (vs := us) (out := out.toArray) hoL
  refine wpAny_pure ⟨_, rfl, h us out h'.objs.size _ rv hs hb (I1.hok.fresh (Nat.le_refl _)) (fun ys ry hy => ?_) hz⟩
  refine I1.laid (t' := tk) (fun b u e => ?_) (Nat.le_refl _) ⟨hy, out, e', ry, he'⟩
  have hlt : b < h'.objs.size := Heap.lt_size e
  rw [sortedHeap_old (Nat.ne_of_lt hlt) (by rw [size_push']; exact Nat.lt_succ_of_lt hlt)]
  exact Heap.get?_push_of_some _ e
/-- what sorted makes of the values -/
def SortQ (K : PySem.W.Frag) (vs : List V) (H : Hp) (Q : VK) : Prop := (∃ ns : List Int, vs = ns.map V.int ∧ ∀ l, H l = none → Q (.ref l) (upd H l (.lst ((sortB leI ns).map V.int)))) ∨
  ∃ g : V → Int × Int, (∀ x ∈ vs, ∃ t, x = .ref t ∧ SqT K H t [.int (g x).1, .int (g x).2]) ∧ ∀ ys l, ys.Perm vs → ys.map g = sortB leP (vs.map g) → H l = none → Q (.ref l) (upd H l (.lst ys))
def rSortG (K : PySem.W.Frag) : List V → Hp → VK → Prop := fun xs H Q => ∃ p, xs = [.ref p] ∧ RowsR K H p fun vs => SortQ K vs H Q
open SrtO in
theorem call_sortG (hc : X.calm = true) : CallR X (.builtin "sorted") (rSortG X.K) := by
  intro pins s σ H xs us Q I r h
  obtain ⟨p, rfl, h⟩ := h
  obtain ⟨u, rfl, rx⟩ := vals1 r
  cases rx
  obtain ⟨vs, q, hcol⟩ := collect_rows (E := X.xe) hc I h
  rcases q with ⟨ns, rfl, q⟩ | ⟨g, hg, q⟩
  · refine sorted_rows (lt := fun _ => ltIv) I (I.ok.hd hc) hcol (fun _ _ => swo_int) (fun us s' a rv h2 I' ha => ints_sortable rv.ints h2) fun us out d s' rv hs hb hd hI hz => ?_
    obtain ⟨k1, k2, k3⟩ := ints_out rv.ints hs hb
    have e := sortI_one k2 k3
    refine ⟨.ref d, _, hI ((out.map iv).map V.int) (vals_of_ints k1) ?_, rfl, ?_⟩
    · rw [List.length_map, k2.length_eq, ← List.length_map (f := V.int), rv.length]; exact hz
    · rw [e]; exact q d hd
  · have key : ∀ us, Vals vs us → vs = us.map backV ∧ ∀ u ∈ us, ∃ a, u = Value.ref a := fun us rv => refs_back rv fun x m => by
      obtain ⟨t, e, _⟩ := hg x m
      exact ⟨t, e⟩
    refine sorted_rows (lt := fun _ v u => lexB (g (backV v)) (g (backV u))) I (I.ok.hd hc) hcol (fun _ _ => swo_lex fun v => g (backV v)) (fun us s' a rv h2 I' ha => ?_) fun us out d s' rv hs hb hd hI hz => ?_
    · obtain ⟨e1, e2⟩ := key us rv
      refine pairs_sortableO (k := fun v => g (backV v)) (by omega) (fun v hv => ?_) fun o e => ?_
      · obtain ⟨t, rfl⟩ := e2 v hv
        have hm : V.ref t ∈ vs := by rw [e1]; exact List.mem_map.mpr ⟨_, hv, rfl⟩
        obtain ⟨t', e, ht⟩ := hg _ hm
        cases e
        obtain ⟨its, r2, ⟨o, ho, hcl, n, hdat⟩, _⟩ := I'.tuple ht
        obtain ⟨u1, u2, rfl, ⟨t1, rfl⟩, ⟨t2, rfl⟩⟩ := vals2 r2
        exact ⟨t, o, t1, t2, n, rfl, ho, hcl, hdat⟩
      · have e' : some o = some (seqObj "list" us.toArray 0) := e.symm.trans ha
        cases e'
        intro c
        exact absurd (Value.type.inj c) (by decide)
    · obtain ⟨e1, e2⟩ := key us rv
      have h3 : ∀ u ∈ out, ∃ a, u = Value.ref a := fun u hu => e2 u (hb.perm.mem_iff.mp hu)
      have pm : (out.map backV).Perm vs := by rw [e1]; exact hb.perm.map backV
      refine ⟨.ref d, _, hI (out.map backV) (vals_back h3) ?_, rfl, q _ d pm ?_ hd⟩
      · rw [pm.length_eq, rv.length]; exact hz
      · refine sortP_one (pm.map g) ?_
        rw [List.map_map, List.pairwise_map]
        refine hs.imp fun {x y} z => ?_
        have z' := lexB_no.mp (show lexB (g (backV y)) (g (backV x)) = false from z)
        exact leP_iff.mpr (show (g (backV x)).1 < (g (backV y)).1 ∨ ((g (backV x)).1 = (g (backV y)).1 ∧ (g (backV x)).2 ≤ (g (backV y)).2) by omega)
end
end Bl

/-! Own layer, part Za: rows by the clean heap; sorted, list.append, list(d), tuple(d). -/
namespace Bl
open PySem PySem.Spec PyProof.Rows L2
/-- the values that a row gives: of a dict its keys -/
def rowsOf (hp : Hc) (x : CV) : Option (List CV) := match seqItems hp x with
  | some xs => some xs
  | none => match dOf hp x with
    | some (_, kvs) => some (kvs.map (·.1))
    | none => none
section
variable {X : Cx} {Γ : Gx} {W : WX} {k : Nat} {F : List Nat} {ρ : Rh} {N : Nat} {H : Hp} {σ : L2.St} {env : En} {hp : Hc} {D : Ends}
theorem rep_key {ρ : Rh} {N : Nat} {H : Hp} {m : Nat} {k : CV} {k' : Key} (hk : keyC k = some k') : Rep Γ ρ N H m k (kV k') := by
  cases k with
  | int i => cases hk; exact repI
  | str s => cases hk; exact repS
  | _ => cases hk
theorem reps_keys {ρ : Rh} {N : Nat} {H : Hp} {m : Nat} : ∀ {ks : List CV} {ks' : List Key}, keysC ks = some ks' → Reps Γ ρ N H m ks (ks'.map kV)
  | [], ks', h => by cases h; unfold Reps; rfl
  | k :: ks, ks', h => by
    unfold keysC at h
    split at h
    · rename_i a b e1 e2
      cases h
      rw [List.map_cons]
      unfold Reps
      exact ⟨_, _, rfl, rep_key e1, reps_keys e2⟩
    · cases h
theorem RepK.keys {m : Nat} : ∀ {kvs : List (CV × CV)} {ds : List (Key × V)}, RepK Γ ρ N H m kvs ds → Reps Γ ρ N H m (kvs.map (·.1)) (ds.map fun q => kV q.1)
  | [], ds, h => by unfold RepK at h; subst h; unfold Reps; rfl
  | (a, x) :: kvs, ds, h => by
    unfold RepK at h
    obtain ⟨a', v, r, rfl, ha, _, h2⟩ := h
    rw [List.map_cons, List.map_cons]
    unfold Reps
    exact ⟨_, _, rfl, rep_key ha, RepK.keys h2⟩
theorem SRh.noTup (r : SRh Γ ρ F hp H) {b : Addr} {vs : List V} (h : H b = some (.tup vs)) : ¬ Own ρ hp.N b := by
  intro ⟨i, hi, e⟩
  obtain ⟨u, q, z⟩ := r.all i hi
  rw [e, h] at z
  cases z
  cases q
theorem RepT.keys (r : SRh Γ ρ F hp H) {m : Nat} : ∀ {kvs : List (CV × CV)} {ds : List (List Key × V)} {bs : List Addr}, RepT Γ ρ hp.N H m kvs ds → IsKeys H ds bs → Reps Γ ρ hp.N H m (kvs.map (·.1)) (bs.map V.ref)
  | [], ds, bs, h, hb => by
    unfold RepT at h; subst h
    cases hb
    unfold Reps; rfl
  | (a, x) :: kvs, ds, bs, h, hb => by
    unfold RepT at h
    obtain ⟨a', v, r', rfl, ha, _, h2⟩ := h
    cases hb with
    | cons hb1 hb2 =>
      rw [List.map_cons, List.map_cons]
      unfold Reps
      refine ⟨_, _, rfl, ?_, RepT.keys r h2 hb2⟩
      cases a with
      | tup ks =>
        unfold Rep
        exact ⟨_, _, rfl, ⟨r.noTup hb1, hb1⟩, reps_keys ha⟩
      | _ => cases ha
theorem rows_ok {x : CV} {v : V} {xs : List CV} (r : SRh Γ ρ F hp H) (h : Rep Γ ρ hp.N H hp.N x v) (e : rowsOf hp x = some xs) : ∃ p, v = .ref p ∧ ∀ RV : List V → Prop, (∀ vs, Reps Γ ρ hp.N H hp.N xs vs → RV vs) → RowsR Γ.K H p RV := by
  unfold rowsOf at e
  split at e
  · rename_i ys ey
    cases e
    obtain ⟨p, vs, rfl, h2, h3⟩ := seqItems_ok r ey h
    exact ⟨p, rfl, fun RV hRV => .inl ⟨vs, h2, hRV vs h3⟩⟩
  · split at e
    · rename_i t kvs ed
      cases e
      cases t with
      | false =>
        obtain ⟨a, ds, rfl, h2, h3⟩ := dOf_k r h ed
        exact ⟨a, rfl, fun RV hRV => .inr (.inl ⟨ds, h2, hRV _ h3.keys⟩)⟩
      | true =>
        obtain ⟨a, ds, rfl, h2, h3⟩ := dOf_t r h ed
        exact ⟨a, rfl, fun RV hRV => .inr (.inr ⟨ds, h2, fun bs hb => hRV _ (RepT.keys r h3 hb)⟩)⟩
    · cases e
/-! ### sorted -/
def intsC : List CV → Option (List Int)
  | [] => some []
  | .int i :: r => (intsC r).map (i :: ·)
  | _ => none
def pairsC : List CV → Option (List (Int × Int))
  | [] => some []
  | .tup [.int a, .int b] :: r => (pairsC r).map ((a, b) :: ·)
  | _ => none
def tup2 (p : Int × Int) : CV := .tup [.int p.1, .int p.2]
def bSorted : List CV → Hc → R CV
  | [x], hp => match rowsOf hp x with
    | some xs => match intsC xs with
      | some ns => newL ((sortB leI ns).map .int) hp
      | none => match pairsC xs with
        | some ps => newL ((sortB leP ps).map tup2) hp
        | none => .stuck
    | none => .stuck
  | _, _ => .stuck
theorem intsC_ok {m : Nat} : ∀ {xs : List CV} {ns : List Int} {vs : List V}, intsC xs = some ns → Reps Γ ρ N H m xs vs → vs = ns.map V.int
  | [], ns, vs, e, h => by cases e; unfold Reps at h; exact h
  | x :: xs, ns, vs, e, h => by
    unfold Reps at h
    obtain ⟨v, r, rfl, h1, h2⟩ := h
    unfold intsC at e
    split at e
    · rename_i eq; cases eq
    · rename_i i r' eq
      injection eq with e1 e2
      subst e1 e2
      cases e3 : intsC xs with
      | none => rw [e3] at e; cases e
      | some ms =>
        rw [e3] at e
        cases e
        unfold Rep at h1
        rw [h1, intsC_ok e3 h2]; rfl
    · cases e
theorem reps_ints {m : Nat} : ∀ ns : List Int, Reps Γ ρ N H m (ns.map CV.int) (ns.map V.int)
  | [] => by unfold Reps; rfl
  | n :: ns => by
    rw [List.map_cons, List.map_cons]
    unfold Reps
    exact ⟨_, _, rfl, repI, reps_ints ns⟩
def gOf (H : Hp) : V → Int × Int
  | .ref t => match H t with
    | some (.tup [.int a, .int b]) => (a, b)
    | _ => (0, 0)
  | _ => (0, 0)
theorem gOf_at {t : Addr} {a b : Int} (h : H t = some (.tup [.int a, .int b])) : gOf H (.ref t) = (a, b) := by
  show (match H t with | some (.tup [.int a, .int b]) => (a, b) | _ => (0, 0)) = (a, b)
  rw [h]
theorem pairsC_ok {m : Nat} : ∀ {xs : List CV} {ps : List (Int × Int)} {vs : List V}, pairsC xs = some ps → Reps Γ ρ N H m xs vs → vs.map (gOf H) = ps ∧ ∀ v ∈ vs, ∃ t, v = .ref t ∧ ¬ Own ρ N t ∧ H t = some (.tup [.int (gOf H v).1, .int (gOf H v).2])
  | [], ps, vs, e, h => by cases e; unfold Reps at h; subst h; exact ⟨rfl, fun v hv => by cases hv⟩
  | x :: xs, ps, vs, e, h => by
    unfold Reps at h
    obtain ⟨v, r, rfl, h1, h2⟩ := h
    unfold pairsC at e
    split at e
    · rename_i eq; cases eq
    · rename_i a b r' eq
      injection eq with e1 e2
      subst e1 e2
      cases e3 : pairsC xs with
      | none => rw [e3] at e; cases e
      | some ms =>
        rw [e3] at e
        cases e
        unfold Rep at h1
        obtain ⟨t, ws, rfl, ⟨no, ht⟩, hw⟩ := h1
        unfold Reps at hw
        obtain ⟨w1, r1, rfl, ha, hw⟩ := hw
        unfold Reps at hw
        obtain ⟨w2, r2, rfl, hb, hw⟩ := hw
        unfold Reps at hw
        subst hw
        unfold Rep at ha hb
        subst ha hb
        obtain ⟨i1, i2⟩ := pairsC_ok e3 h2
        have eg := gOf_at ht
        refine ⟨by rw [List.map_cons, eg, i1], fun v hv => ?_⟩
        rcases List.mem_cons.mp hv with rfl | hv
        · exact ⟨t, rfl, no, by rw [eg]; exact ht⟩
        · exact i2 v hv
    · cases e
theorem reps_pairs {m : Nat} : ∀ {ys : List V}, (∀ v ∈ ys, ∃ t, v = .ref t ∧ ¬ Own ρ N t ∧ H t = some (.tup [.int (gOf H v).1, .int (gOf H v).2])) → Reps Γ ρ N H m ((ys.map (gOf H)).map tup2) ys
  | [], _ => by unfold Reps; rfl
  | v :: ys, h => by
    obtain ⟨t, e, no, ht⟩ := h v List.mem_cons_self
    rw [List.map_cons, List.map_cons]
    unfold Reps
    refine ⟨v, ys, rfl, ?_, reps_pairs fun u hu => h u (List.mem_cons_of_mem _ hu)⟩
    unfold tup2 Rep
    exact ⟨t, _, e, ⟨no, ht⟩, by unfold Reps; exact ⟨_, _, rfl, repI, by unfold Reps; exact ⟨_, _, rfl, repI, by unfold Reps; rfl⟩⟩⟩
theorem bc_sorted [S : Sx X Γ W k] : CallC X Γ W (.builtin "sorted") bSorted := ⟨_, call_sortG S.calm, fun σ ρ F hp H as xs Q r h p => by
  unfold bSorted at p
  split at p
  · obtain ⟨v, rfl, h1⟩ := h.one
    split at p
    · rename_i ys ey
      obtain ⟨q, rfl, hq⟩ := rows_ok r h1 ey
      rw [S.K]
      refine ⟨q, rfl, hq _ fun vs hv => ?_⟩
      split at p
      · rename_i ns en
        exact .inl ⟨ns, intsC_ok en hv, fun l hl => post_newL r (reps_ints _) hl p⟩
      · split at p
        · rename_i ps ep
          obtain ⟨i1, i2⟩ := pairsC_ok ep hv
          refine .inr ⟨gOf H, fun x hx => ?_, fun ws l pm eg hl => ?_⟩
          · obtain ⟨t, e, _, ht⟩ := i2 x hx
            exact ⟨t, e, .inl (.inl ht)⟩
          · have hr : Reps Γ ρ hp.N H hp.N ((sortB leP ps).map tup2) ws := by
              rw [← i1, ← eg]
              exact reps_pairs fun v hv => i2 v (pm.mem_iff.mp hv)
            exact post_newL r hr hl p
        · exact p.elim
    · exact p.elim
  · exact p.elim⟩
/-! ### l.append(x) -/
def appC (n : Nat) (x : CV) (hp : Hc) : Option Hc := match hp.os[n]? with
  | some (.lst xs) => if (decide (n < hp.fl) && !limL (n + 1) (xs ++ [x])) = true then none else if decide (xs.length < 16777216) = true then some (hp.set n (.lst (xs ++ [x]))) else none
  | _ => none
def isL (hp : Hc) (n : Nat) : Bool := match hp.os[n]? with
  | some (.lst _) => true
  | _ => false
def eAppend (mo ma : M CV) : M CV := fun env hp => (mo env hp).bind fun o hp => match o with
  | .ref n => if isL hp n = true then (ma env hp).bind fun x hp => (match appC n x hp with
    | some hp' => .ok .non hp'
    | none => .stuck) else .stuck
  | _ => .stuck
theorem mtr_append : MtR X "list.append" rAppend := fun pins s σ H x xs v us Q I rx rv h => mt_append pins s σ H x xs v us Q I rx rv h
theorem appC_ok {n : Nat} {x : CV} {v : V} {hp' : Hc} (hn : n < hp.N) (r : SRh Γ ρ F hp H) (hx : Rep Γ ρ hp.N H hp.N x v) (e : appC n x hp = some hp') :
    ∃ vs, H (ρ n) = some (.lst vs) ∧ vs.length < sizeLine ∧ hp'.N = hp.N ∧ Step ρ hp.N H ρ hp'.N (upd H (ρ n) (.lst (vs ++ [v]))) ∧ SRh Γ ρ F hp' (upd H (ρ n) (.lst (vs ++ [v]))) := by
  unfold appC at e
  split at e
  · rename_i xs he
    split at e
    · cases e
    · rename_i hc
      split at e
      · rename_i hl
        cases e
        obtain ⟨vs, a1, a2⟩ := r.obj _ _ he
        have st : Step ρ hp.N H ρ hp.N (upd H (ρ n) (.lst (vs ++ [v]))) := step_write hn
        refine ⟨vs, a1, by rw [← a2.len, sizeLine_eq]; exact of_decide_eq_true hl, Hc.set_N _ _ _, by rw [Hc.set_N]; exact st, ?_⟩
        refine r.write (c := .lst (xs ++ [x])) hn (fun hl => ?_) (fun f hf z => limO_mono hf (.lst (xs ++ [x])) z) ⟨_, upd_same, (a2.app (reps1 hx)).mono st (Nat.le_refl _) (Nat.le_refl _)⟩
        by_cases hz : limL (n + 1) (xs ++ [x]) = true
        · exact hz
        · exact absurd (by rw [decide_eq_true hl, Bool.not_eq_true] at *; simp [hz]) hc
      · cases e
  · cases e
theorem isL_ok {n : Nat} (r : SRh Γ ρ F hp H) (e : isL hp n = true) : n < hp.N ∧ ∃ vs, H (ρ n) = some (.lst vs) := by
  unfold isL at e
  split at e
  · rename_i xs he
    obtain ⟨vs, a1, _⟩ := r.obj _ _ he
    exact ⟨(List.getElem?_eq_some_iff.mp he).1, vs, a1⟩
  · cases e
theorem sim_append [S : Sx X Γ W k] {o a : Expr} {mo ma : M CV} {apos cpos : Pos} (ho : SimE X Γ W o mo) (ha : SimE X Γ W a ma)
    (hbase : attributeBase o "append" X.env (eval o X.env) = eval o X.env := by rfl)
    (hfew : ((backTo cpos (starEach [a] X.env)).all (fun x => !x.1) && (backToKw cpos (keywordEach [] X.env)).all (fun x => x.1.isSome)
      && decide ([a].length + ([] : List Keyword).length + (if ([] : List Keyword).isEmpty then 0 else 1) < 30)) = true := by rfl)
    (hline : (apos.endLine == cpos.line) = true := by rfl) (hs : starEach [a] X.env = (false, eval a X.env) :: starEach [] X.env := by rfl) :
    SimE X Γ W (.Call (.Attribute o "append" apos) [a] [] cpos) (eAppend mo ma) :=
  pe_imp (pe_bm PySem.F.plainAttrs_list PySem.F.slot_list_append PySem.F.type_list_append mtr_append ho (pa_cons ha pa_nil hs) hbase hfew hline hs (by rfl)) fun σ H Q z => by
    obtain ⟨ρ, F, hp, env, r0, e0, p⟩ := z
    refine rd_mono (rd_next (re := reV Γ) r0 e0 p) fun x H1 ⟨ρ1, hp1, co, s1, r1, e1, h1, p1⟩ => ?_
    cases co with
    | ref n =>
      have h1' : Rep Γ ρ1 hp1.N H1 hp1.N (.ref n) x := h1
      unfold Rep at h1'
      obtain ⟨hn, rfl⟩ := h1'
      have p1' : Post Γ F W σ ρ1 hp1.N H1 (reV Γ) (if isL hp1 n = true then (ma env hp1).bind fun x hp => (match appC n x hp with | some hp' => .ok .non hp' | none => .stuck) else .stuck) Q := p1
      split at p1'
      · rename_i hi
        obtain ⟨_, ws, hw⟩ := isL_ok r1 hi
        refine ⟨.inl ⟨rfl, ws, .inl (.inl hw)⟩, rd_mono (rd_next (re := reV Γ) r1 e1 p1') fun v H2 ⟨ρ2, hp2, cx, s2, r2, e2, h2, p2⟩ => ?_⟩
        split at p2
        · rename_i hp3 e3
          obtain ⟨vs, a1, a2, a3, a4, a5⟩ := appC_ok (Nat.lt_of_lt_of_le hn s2.le) r2 h2 e3
          rw [s2.agree n hn] at a1 a4 a5
          exact ⟨_, vs, v, rfl, rfl, a1, a2, p2 ρ2 _ .non a4 a5 repN⟩
        · exact p2.elim
      · exact p1'.elim
    | _ => exact p1.elim
end
end Bl

/-! Own layer, part Zb: dicts that the top has written, text keys. -/
namespace Bl
open PySem PySem.Spec PyProof.Rows L2
abbrev WTab := List (List Nat × CV)
def lookW (z : List Nat) : WTab → Option CV
  | [] => none
  | (k, v) :: r => if k = z then some v else lookW z r
/-- the entry is the pair -/
def EntryIs (Γ : Gx) (p : List Nat × CV) (e : DictEntry) : Prop := (∃ t, e.key = .str (sOf p.1) t) ∧ ∃ v, L2.RelV v e.val ∧ ∀ ρ N H m, Rep Γ ρ N H m p.2 v
structure WdT (K : PySem.W.Frag) (w : World) (Γ : Gx) (tabs : List WTab) : Prop where
  at_ : ∀ i tab, tabs[i]? = some tab → ∃ es n, KDict K w (Γ.wd i) es n ∧ Paired (EntryIs Γ) tab es.toList
section
variable {X : Cx} {Γ : Gx} {W : WX} {k : Nat} {F : List Nat} {ρ : Rh} {N : Nat} {H : Hp} {σ : L2.St} {env : En} {hp : Hc} {D : Ends} {pos : Pos} {tabs : List WTab}
theorem entries_look {z : List Nat} : ∀ {tab : WTab} {es : List DictEntry}, Paired (EntryIs Γ) tab es → (match lookW z tab with
    | some cv => ∃ e v, es.find? (·.key.isStr (sOf z)) = some e ∧ L2.RelV v e.val ∧ ∀ ρ N H m, Rep Γ ρ N H m cv v
    | none => es.find? (·.key.isStr (sOf z)) = none) ∧ es.any (·.refKey) = false
  | [], _, .nil => ⟨rfl, rfl⟩
  | (q, cv) :: tab, e :: es, .cons h t => by
    obtain ⟨⟨tk, ek⟩, v, hv, hr⟩ := h
    obtain ⟨i1, i2⟩ := entries_look (z := z) t
    have ne : e.refKey = false := by
      unfold DictEntry.refKey
      rw [ek]
    refine ⟨?_, by rw [List.any_cons, ne, i2]; rfl⟩
    unfold lookW
    rw [List.find?_cons]
    by_cases hq : q = z
    · subst hq
      rw [if_pos rfl]
      have : e.key.isStr (sOf q) = true := by rw [ek]; simp [Value.isStr]
      rw [this]
      exact ⟨e, v, rfl, hv, hr⟩
    · rw [if_neg hq]
      have : e.key.isStr (sOf z) = false := by
        rw [ek]
        have hn : ¬ sOf q = sOf z := fun h => hq (sOf_inj.mp h)
        simp [Value.isStr, hn]
      rw [this]
      exact i1
def NsIs (K : PySem.W.Frag) (Γ : Gx) (a : Addr) (z : Str) (o : Option CV) : Prop := match o with
  | some cv => ∃ u v, PySem.W.nsIn K a z = some (some u) ∧ L2.RelV v u ∧ ∀ ρ N H m, Rep Γ ρ N H m cv v
  | none => PySem.W.nsIn K a z = some none
theorem WdT.look {K : PySem.W.Frag} {w : World} (T : WdT K w Γ tabs) {i : Nat} {tab : WTab} (h : tabs[i]? = some tab) (z : List Nat) : ∃ es n, KDict K w (Γ.wd i) es n ∧ NsIs K Γ (Γ.wd i) (sOf z) (lookW z tab) := by
  obtain ⟨es, n, kd, pr⟩ := T.at_ i tab h
  refine ⟨es, n, kd, ?_⟩
  obtain ⟨i1, i2⟩ := entries_look (z := z) pr
  cases e : lookW z tab with
  | some cv =>
    rw [e] at i1
    obtain ⟨en, v, h1, h2, h3⟩ := i1
    refine ⟨en.val, v, ?_, h2, h3⟩
    unfold PySem.W.nsIn
    rw [kd.at_]
    simp only [h1]
  | none =>
    rw [e] at i1
    have i1' : es.toList.find? (·.key.isStr (sOf z)) = none := i1
    show PySem.W.nsIn K (Γ.wd i) (sOf z) = some none
    unfold PySem.W.nsIn
    rw [kd.at_]
    simp only [i1', i2]
    rfl
/-! ### one of two readings of an operation -/
def vOr (f g : CV → CV → Hc → R CV) : CV → CV → Hc → R CV := fun a b hp => match f a b hp with
  | .stuck => g a b hp
  | r => r
theorem vop_or {r1 r2 : R2} {f g : CV → CV → Hc → R CV} (h1 : VOp Γ W r1 f) (h2 : VOp Γ W r2 g) : VOp Γ W (fun x y H Q => r1 x y H Q ∨ r2 x y H Q) (vOr f g) := by
  intro σ ρ F hp H a b x y Q r ra rb p
  unfold vOr at p
  cases e : f a b hp with
  | stuck => rw [e] at p; exact .inr (h2 σ ρ F hp H a b x y Q r ra rb p)
  | ok v hp' => rw [e] at p; exact .inl (h1 σ ρ F hp H a b x y Q r ra rb (by rw [e]; exact p))
  | exc c fs hp' => rw [e] at p; exact .inl (h1 σ ρ F hp H a b x y Q r ra rb (by rw [e]; exact p))
theorem oc_or {fn : Value → Value → Sem Value} {f g : CV → CV → Hc → R CV} (h1 : OpC X Γ W fn f) (h2 : OpC X Γ W fn g) : OpC X Γ W fn (vOr f g) := by
  obtain ⟨r1, o1, v1⟩ := h1
  obtain ⟨r2, o2, v2⟩ := h2
  exact ⟨_, fun pins s σ H x y v u Q I rx ry q => q.elim (o1 pins s σ H x y v u Q I rx ry) (o2 pins s σ H x y v u Q I rx ry), vop_or v1 v2⟩
/-! ### in, not in a dict -/
theorem oc_din [S : Sx X Γ W k] : OpC X Γ W (compareOp .In) (vDIn false) := by
  refine ⟨fun x y H Q => ∃ a o, y = .ref a ∧ DGet H a x o ∧ Q (.bl o.isSome) H, fun pins s σ H x y v u Q I rx ry q => ?_, fun σ ρ F hp H a b x y Q r ra rb p => ?_⟩
  · obtain ⟨a, o, rfl, g, q⟩ := q
    cases ry
    exact d_in (by have := S.room.un; omega) I g rx fun s3 I3 => ⟨.bl o.isSome, H, I3, rfl, q⟩
  · unfold vDIn at p
    split at p
    · rename_i o ev
      obtain ⟨c, ov, rfl, g, l⟩ := getD_ok r rb ra ev
      exact ⟨c, ov, rfl, g, p.ok r (by rw [isSome_eq l]; exact repB)⟩
    · exact p.elim
theorem oc_dnin [S : Sx X Γ W k] : OpC X Γ W (compareOp .NotIn) (vDIn true) := by
  refine ⟨fun x y H Q => ∃ a o, y = .ref a ∧ DGet H a x o ∧ Q (.bl (!o.isSome)) H, fun pins s σ H x y v u Q I rx ry q => ?_, fun σ ρ F hp H a b x y Q r ra rb p => ?_⟩
  · obtain ⟨a, o, rfl, g, q⟩ := q
    cases ry
    exact d_notIn (by have := S.room.un; omega) I g rx fun s3 I3 => ⟨.bl (!o.isSome), H, I3, rfl, q⟩
  · unfold vDIn at p
    split at p
    · rename_i o ev
      obtain ⟨c, ov, rfl, g, l⟩ := getD_ok r rb ra ev
      exact ⟨c, ov, rfl, g, p.ok r (by rw [isSome_eq l]; exact repB)⟩
    · exact p.elim
/-! ### in, not in a written dict -/
def lookWd (tabs : List WTab) : CV → CV → Option (Option CV)
  | .str z, .wdc i => match tabs[i]? with
    | some tab => some (lookW z tab)
    | none => none
  | _, _ => none
def vWIn (tabs : List WTab) (neg : Bool) (q d : CV) (hp : Hc) : R CV := match lookWd tabs q d with
  | some o => .ok (.bl (if neg = true then !o.isSome else o.isSome)) hp
  | none => .stuck
theorem lookWd_ok (T : WdT X.K X.w Γ tabs) {q d : CV} {o : Option CV} {x y : V} {N m : Nat} (hq : Rep Γ ρ N H m q x) (hd : Rep Γ ρ N H m d y) (e : lookWd tabs q d = some o) :
    ∃ i z es n, x = .str (sOf z) ∧ y = .ref (Γ.wd i) ∧ KDict X.K X.w (Γ.wd i) es n ∧ NsIs X.K Γ (Γ.wd i) (sOf z) o := by
  cases q with
  | str z =>
    cases d with
    | wdc i =>
      have e' : (match tabs[i]? with | some tab => some (lookW z tab) | none => none) = some o := e
      cases et : tabs[i]? with
      | some tab =>
        rw [et] at e'
        have e2 : lookW z tab = o := Option.some.inj e'
        obtain ⟨es, n, kd, l⟩ := T.look et z
        rw [e2] at l
        unfold Rep at hq hd
        subst hq hd
        exact ⟨i, z, es, n, rfl, rfl, kd, l⟩
      | none => rw [et] at e'; cases e'
    | _ => cases e
  | _ => cases e
theorem oc_win (T : WdT X.K X.w Γ tabs) : OpC X Γ W (compareOp .In) (vWIn tabs false) := by
  refine ⟨fun x y H Q => ∃ d es n, KDict X.K X.w d es n ∧ ∃ (z : Str) (r : Option Value), x = .str z ∧ y = .ref d ∧ PySem.W.nsIn X.K d z = some r ∧ Q (.bl r.isSome) H, fun pins s σ H x y v u Q I rx ry q => ?_, fun σ ρ F hp H a b x y Q r ra rb p => ?_⟩
  · obtain ⟨d, es, n, kd, q⟩ := q
    exact op_in_kd kd pins s σ H x y v u Q I rx ry q
  · unfold vWIn at p
    split at p
    · rename_i o ev
      obtain ⟨i, z, es, n, rfl, rfl, kd, l⟩ := lookWd_ok T ra rb ev
      cases o with
      | some cv =>
        obtain ⟨u, v, h1, _⟩ := l
        exact ⟨_, es, n, kd, _, _, rfl, rfl, h1, p.ok r repB⟩
      | none => exact ⟨_, es, n, kd, _, _, rfl, rfl, l, p.ok r repB⟩
    · exact p.elim
theorem oc_wnin (T : WdT X.K X.w Γ tabs) : OpC X Γ W (compareOp .NotIn) (vWIn tabs true) := by
  refine ⟨fun x y H Q => ∃ d es n, KDict X.K X.w d es n ∧ ∃ (z : Str) (r : Option Value), x = .str z ∧ y = .ref d ∧ PySem.W.nsIn X.K d z = some r ∧ Q (.bl (!r.isSome)) H, fun pins s σ H x y v u Q I rx ry q => ?_, fun σ ρ F hp H a b x y Q r ra rb p => ?_⟩
  · obtain ⟨d, es, n, kd, q⟩ := q
    exact op_notIn_kd kd pins s σ H x y v u Q I rx ry q
  · unfold vWIn at p
    split at p
    · rename_i o ev
      obtain ⟨i, z, es, n, rfl, rfl, kd, l⟩ := lookWd_ok T ra rb ev
      cases o with
      | some cv =>
        obtain ⟨u, v, h1, _⟩ := l
        exact ⟨_, es, n, kd, _, _, rfl, rfl, h1, p.ok r repB⟩
      | none => exact ⟨_, es, n, kd, _, _, rfl, rfl, l, p.ok r repB⟩
    · exact p.elim
/-! ### x[i], of anything -/
def vWGet (tabs : List WTab) (d q : CV) (hp : Hc) : R CV := match lookWd tabs q d with
  | some (some v) => .ok v hp
  | _ => .stuck
theorem ix_dget (hu : X.A.units + 1 < cLine) : IxR X (fun x y H Q => ∃ a v, x = .ref a ∧ DGet H a y (some v) ∧ Q v H) := by
  intro value slice pins s σ H x y v u Q I rx ry h hs
  obtain ⟨a, w, rfl, g, q⟩ := h
  cases rx
  exact tail_any (dict_typeIs I g) PySem.F.slot_dict_getitem.lookup (d_getItem hu I g ry fun w' s3 I3 rw' => ⟨w, H, I3, rw', q⟩) hs
theorem vop_dget : VOp Γ W (fun x y H Q => ∃ a v, x = .ref a ∧ DGet H a y (some v) ∧ Q v H) vDGet := by
  intro σ ρ F hp H a b x y Q r ra rb p
  unfold vDGet at p
  split at p
  · rename_i v ev
    obtain ⟨c, ov, rfl, g, l⟩ := getD_ok r ra rb ev
    obtain ⟨w, rfl, hw⟩ := l
    exact ⟨c, w, rfl, g, p.ok r hw⟩
  · exact p.elim
theorem vop_wget (T : WdT X.K X.w Γ tabs) : VOp Γ W (rIxD X.K X.w) (vWGet tabs) := by
  intro σ ρ F hp H a b x y Q r ra rb p
  unfold vWGet at p
  split at p
  · rename_i v ev
    obtain ⟨i, z, es, n, rfl, rfl, kd, u, w, h1, h2, h3⟩ := lookWd_ok T rb ra ev
    exact ⟨_, _, w, rfl, rfl, ⟨es, n, u, kd.at_, kd.lit, h1, h2⟩, p.ok r (h3 _ _ _ _)⟩
  · exact p.elim
abbrev vIxX (tabs : List WTab) := vOr vIx (vOr vDGet (vWGet tabs))
theorem sim_ixX [S : Sx X Γ W k] {a b : Expr} {ma mb : M CV} (T : WdT X.K X.w Γ tabs) (ha : SimE X Γ W a ma) (hb : SimE X Γ W b mb) (hs : PlainIx b := by exact fun _ _ => rfl) : SimE X Γ W (.Subscript a b pos) (e2 (vIxX tabs) ma mb) :=
  pe_imp (pe_ix (ix_seq.or ((ix_dget (by have := S.room.un; omega)).or ix_kdict)) ha hb hs) fun _ _ _ h => e2_op (vop_or vop_ix (vop_or vop_dget (vop_wget T))) h
abbrev vInX (tabs : List WTab) (neg : Bool) := vOr (vIn neg) (vOr (vDIn neg) (vWIn tabs neg))
theorem oc_inX [S : Sx X Γ W k] (T : WdT X.K X.w Γ tabs) : OpC X Γ W (compareOp .In) (vInX tabs false) := oc_or oc_in (oc_or oc_din (oc_win T))
theorem oc_ninX [S : Sx X Γ W k] (T : WdT X.K X.w Γ tabs) : OpC X Γ W (compareOp .NotIn) (vInX tabs true) := oc_or oc_nin (oc_or oc_dnin (oc_wnin T))
theorem wdT_nil {K : PySem.W.Frag} {w : World} : WdT K w Γ [] := ⟨fun i tab e => by cases e⟩
end
/-! ### by the head's data -/
def entB (K : PySem.W.Frag) (p : List Nat × CV) (e : DictEntry) : Bool := (match e.key with
  | .str x _ => decide (sOf p.1 = x)
  | _ => false) && wB K 8 p.2 e.val
def wdB (K : PySem.W.Frag) (a : Addr) (tab : WTab) : Bool := match K.lookup a with
  | some ⟨_, _, .dict es _, _⟩ => decide (tab.length = es.toList.length) && (tab.zip es.toList).all fun q => entB K q.1 q.2
  | _ => false
theorem ents_ok {Γ : Gx} {K : PySem.W.Frag} (hK : Γ.K = K) : ∀ {tab : WTab} {es : List DictEntry}, tab.length = es.length → (tab.zip es).all (fun q => entB K q.1 q.2) = true → Paired (EntryIs Γ) tab es
  | [], [], _, _ => .nil
  | [], _ :: _, h, _ => by cases h
  | _ :: _, [], h, _ => by cases h
  | p :: tab, e :: es, hl, h => by
    rw [List.zip_cons_cons, List.all_cons, Bool.and_eq_true] at h
    refine .cons ?_ (ents_ok hK (by simpa using hl) h.2)
    have h1 : ((match e.key with | .str x _ => decide (sOf p.1 = x) | _ => false) && wB K 8 p.2 e.val) = true := h.1
    rw [Bool.and_eq_true] at h1
    obtain ⟨h2, h3⟩ := h1
    refine ⟨?_, _, wB_ok hK 8 p.2 e.val h3⟩
    split at h2
    · rename_i x t ek
      exact ⟨t, by rw [ek, of_decide_eq_true h2]⟩
    · cases h2
theorem wdB_ok {Γ : Gx} {K : PySem.W.Frag} {w : World} {a : Addr} {tab : WTab} {es : Array DictEntry} {n : Nat} (hK : Γ.K = K) (kd : KDict K w a es n) (h : wdB K a tab = true) : Paired (EntryIs Γ) tab es.toList := by
  unfold wdB at h
  rw [kd.at_] at h
  have h' : (decide (tab.length = es.toList.length) && (tab.zip es.toList).all fun q => entB K q.1 q.2) = true := h
  rw [Bool.and_eq_true, decide_eq_true_eq] at h'
  exact ents_ok hK h'.1 h'.2
end Bl

/-! Own layer, part Zc: x in a list or tuple of data; three names set at once. -/
namespace Bl
open PySem PySem.Spec PyProof.Rows L2
section
variable {X : Cx} {Γ : Gx} {W : WX} {k : Nat} {F : List Nat} {ρ : Rh} {N : Nat} {H : Hp} {σ : L2.St} {env : En} {hp : Hc} {D : Ends} {pos : Pos}
def rInDT (K : PySem.W.Frag) (neg : Bool) : R2 := fun x y H Q => ∃ d ds, Dp K H x d ∧ (Dp K H y (.list ds) ∨ Dp K H y (.tuple ds)) ∧ SeqAt.shaped d = true ∧ SeqAt.shaped (.list ds) = true ∧ Q (.bl (if neg = true then !ds.any fun z => PyData.eqv z d else ds.any fun z => PyData.eqv z d)) H
theorem op_inDT (hu : X.A.units + 65 < cLine) : OpR X (compareOp .In) (rInDT X.K false) := by
  intro pins s σ H x y v u Q I rx ry h
  obtain ⟨d, ds, hd, he, sd, se, q⟩ := h
  obtain ⟨as, r1⟩ := Dp.reads I d x v hd rx
  rcases he with he | he
  · obtain ⟨bs, r2⟩ := Dp.reads I (.list ds) y u he ry
    exact SeqAt.in_list_reads r2 r1 (SeqAt.canLay_of_shaped se) (SeqAt.canLay_of_shaped sd) (room_in_shaped sd hu) ⟨.bl _, H, I, rfl, q⟩
  · obtain ⟨bs, r2⟩ := Dp.reads I (.tuple ds) y u he ry
    exact SeqAt.in_tuple_reads r2 r1 (SeqAt.canLay_of_shaped (d := .list ds) se) (SeqAt.canLay_of_shaped sd) (room_in_shaped sd hu) ⟨.bl _, H, I, rfl, q⟩
theorem op_ninDT (hu : X.A.units + 65 < cLine) : OpR X (compareOp .NotIn) (rInDT X.K true) := by
  intro pins s σ H x y v u Q I rx ry h
  obtain ⟨d, ds, hd, he, sd, se, q⟩ := h
  obtain ⟨as, r1⟩ := Dp.reads I d x v hd rx
  rcases he with he | he
  · obtain ⟨bs, r2⟩ := Dp.reads I (.list ds) y u he ry
    exact SeqAt.notIn_list_reads r2 r1 (SeqAt.canLay_of_shaped se) (SeqAt.canLay_of_shaped sd) (room_in_shaped sd hu) ⟨.bl _, H, I, rfl, q⟩
  · obtain ⟨bs, r2⟩ := Dp.reads I (.tuple ds) y u he ry
    exact SeqAt.notIn_tuple_reads r2 r1 (SeqAt.canLay_of_shaped (d := .list ds) se) (SeqAt.canLay_of_shaped sd) (room_in_shaped sd hu) ⟨.bl _, H, I, rfl, q⟩
def rowPy : PyData → Option (List PyData)
  | .list ds => some ds
  | .tuple ds => some ds
  | _ => none
def inD (os : List CO) (a b : CV) : Option Bool := match toPy os 12 a, (toPy os 12 b).bind rowPy with
  | some d, some ds => if (SeqAt.shaped d && SeqAt.shaped (.list ds)) = true then some (ds.any fun z => PyData.eqv z d) else none
  | _, _ => none
def vInD (neg : Bool) : CV → CV → Hc → R CV := fun a b hp => match inD hp.os a b with
  | some r => .ok (.bl (if neg = true then !r else r)) hp
  | none => .stuck
theorem vop_inD [S : Sx X Γ W k] {neg : Bool} : VOp Γ W (rInDT X.K neg) (vInD neg) := by
  intro σ ρ F hp H a b x y Q r ra rb p
  unfold vInD at p
  cases e : inD hp.os a b with
  | none => rw [e] at p; exact p.elim
  | some o =>
    rw [e] at p
    unfold inD at e
    split at e
    · rename_i d ds e1 e2
      split at e
      · rename_i hs
        cases e
        rw [Bool.and_eq_true] at hs
        rw [S.K]
        have h1 := toPy_ok r 12 hp.N a d x (Nat.le_refl _) e1 ra
        cases e3 : toPy hp.os 12 b with
        | none => rw [e3] at e2; cases e2
        | some g =>
          rw [e3] at e2
          have h2 := toPy_ok r 12 hp.N b g y (Nat.le_refl _) e3 rb
          have e4 : rowPy g = some ds := e2
          refine ⟨d, ds, h1, ?_, hs.1, hs.2, p.ok r repB⟩
          cases g with
          | list es => cases e4; exact .inl h2
          | tuple es => cases e4; exact .inr h2
          | _ => cases e4
      · cases e
    · cases e
theorem oc_inD [S : Sx X Γ W k] : OpC X Γ W (compareOp .In) (vInD false) := ⟨_, op_inDT (by have := S.room.un; omega), vop_inD⟩
theorem oc_ninD [S : Sx X Γ W k] : OpC X Γ W (compareOp .NotIn) (vInD true) := ⟨_, op_ninDT (by have := S.room.un; omega), vop_inD⟩
abbrev vInY (tabs : List WTab) (neg : Bool) := vOr (vInX tabs neg) (vInD neg)
theorem oc_inY [S : Sx X Γ W k] {tabs : List WTab} (T : WdT X.K X.w Γ tabs) : OpC X Γ W (compareOp .In) (vInY tabs false) := oc_or (oc_inX T) oc_inD
theorem oc_ninY [S : Sx X Γ W k] {tabs : List WTab} (T : WdT X.K X.w Γ tabs) : OpC X Γ W (compareOp .NotIn) (vInY tabs true) := oc_or (oc_ninX T) oc_ninD
/-! ### x, y, z = a, b, c -/
def sPar3 (i j l : Nat) (ms : List (M CV)) : MS := fun env hp => RS.of (evA ms env hp) env fun vs hp => match vs with
  | [u, v, w] => .ok (.nx (((env.set i (some u)).set j (some v)).set l (some w))) hp
  | _ => .stuck
theorem sim_par3 [S : Sx X Γ W k] {i j l : Nat} {x y z : Str} {a b c : Expr} {ms : List (M CV)} {px py pz pt : Pos} {kt k2 : Nat} {pt2 pos : Pos} (ha : SimA X Γ W [a, b, c] (evA ms)) (hi : X.N[i]? = some x) (hj : X.N[j]? = some y) (hl : X.N[l]? = some z) (hij : i ≠ j) (hil : i ≠ l) (hjl : j ≠ l)
    (hx : X.env.scope.names.lookup x = some .local) (hy : X.env.scope.names.lookup y = some .local) (hz : X.env.scope.names.lookup z = some .local) (hw : swappedStores [.Tuple [.Name x px, .Name y py, .Name z pz] kt pt] (.Tuple [a, b, c] k2 pt2) X.env = pure (some [x, y, z]))
    (hs : swapsWithSole [.Tuple [.Name x px, .Name y py, .Name z pz] kt pt] (.Tuple [a, b, c] k2 pt2) pos.line X.env = pure false := by rfl) : SimS X Γ W (.Assign [.Tuple [.Name x px, .Name y py, .Name z pz] kt pt] (.Tuple [a, b, c] k2 pt2) pos) (sPar3 i j l ms) :=
  ps_imp (ps_par3 S.calm S.nd hi hj hl hij hil hjl hx hy hz ha hw hs) fun D σ H q => by
    obtain ⟨F, env, q⟩ := rdS_first (re := reA Γ) q
    refine rd_mono q fun xs H1 ⟨ρ1, hp1, vs, r1, e1, h1, p1⟩ => ?_
    split at p1
    · have h1' : Reps Γ ρ1 hp1.N H1 hp1.N _ xs := h1
      unfold Reps at h1'
      obtain ⟨u, r, rfl, q0, h2⟩ := h1'
      obtain ⟨v, w, rfl, q1, q2⟩ := reps_two h2
      exact ⟨u, v, w, rfl, p1.nx r1 (((e1.set q0 i).set q1 j).set q2 l)⟩
    · exact p1.elim
end
end Bl

/-! Own layer, part Zd: a law's end where defs make code objects. -/
namespace Bl
open PySem PySem.Spec PyProof.Rows L2 LamX
theorem law_spT {Γ : Gx} {f : Fn} {cs : List (Addr × Addr)} (hT : ∀ q ∈ Γ.T, ∃ p ∈ cs, q.1 = p.2) (hf : ∀ ns : List Int, ∃ hp', f [.lst (ns.map .int)] ⟨0, []⟩ = .ok (.bl true) hp') {H : Hp} {a : Addr} {ns : List Int} (hH : ∀ p ∈ cs, H p.2 = some (.tbl #[])) (hS : SqL Γ.K H a (ns.map V.int)) :
    spF Γ 1 f [.ref a] H (fun v _ => v = .bl true) fun _ _ _ => False := by
  obtain ⟨hp', e⟩ := hf ns
  refine ⟨rfl, rh0, [], ⟨0, []⟩, [.lst (ns.map .int)], srh_nil (fun q hq => ?_) rfl, reps1 ?_, ?_⟩
  · obtain ⟨p, hp, eq⟩ := hT q hq
    exact TabS.nil (by rw [eq]; exact hH p hp)
  · show Rep Γ rh0 0 H 0 (.lst (ns.map .int)) (.ref a)
    unfold Rep
    refine ⟨a, _, rfl, ?_, reps_ints ns⟩
    rcases hS with h | h
    · exact .inl ⟨fun ⟨i, hi, _⟩ => absurd hi (Nat.not_lt_zero i), h⟩
    · exact .inr h
  · rw [e]
    intro ρ' H' x _ _ h
    have h' : Rep Γ ρ' hp'.N H' hp'.N (.bl true) x := h
    unfold Rep at h'
    exact h'
/-- such a law walks -/
theorem law_walkT {l : PySem.W.OpenLaw} {n k : Nat} {q : Program} {loose : List Str} {XP : (Str → Option Value) → Heap → Prop} {YP : World → Heap → Prop} {d : DefRec} {x : Str}
    (hn : l.most = some n) (hz : n ≤ sizeLine) (hdf : d.params.defaults = []) (hr : Room k callerA)
    (F : ∀ (w : World) (mg : Str → Option Value) (fa : Addr) (h : Heap), YP w h → h.Ns mainGlobals mg → mg d.name = some (.ref fa) →
      ∃ (K : PySem.W.Frag) (fd : FuncData) (Γ : Gx) (f : Fn) (cs : List (Addr × Addr)), K.In h ∧ Γ.K = K ∧ (∀ p ∈ cs, h.get? p.2 = some { cls := .none, data := .fields #[] }) ∧ (∀ p ∈ cs, K.lookup p.2 = none) ∧ (∀ p ∈ cs, PySem.W.CodeHd h p.1 p.2) ∧ (∀ q ∈ Γ.T, ∃ p ∈ cs, q.1 = p.2) ∧
        (∀ (s : Shared) (u : Value), BindsTo s fd ⟨[u], []⟩ [(x, u)]) ∧ (∀ ns : List Int, ∃ hp', f [.lst (ns.map .int)] ⟨0, []⟩ = .ok (.bl true) hp') ∧
        ∀ base : Heap, K.In base → base.Ns mainGlobals mg → (∀ p ∈ cs, TabB base mg p.1 p.2) → FnOk l.prog w K mg base (L2.CX l.prog w) k fa fd [x] (spF Γ 1 f)) :
    PySem.W.WalkO q loose XP YP l.row.toRowW d [] (fun f vs => PySem.call f vs) := by
  refine walk_ofTsE (x := x) (CX := fun w => L2.CX l.prog w) hn hz hdf hr (fun w mg fa h Y G hmg => ?_) fun w H s e s' hc => ?_
  · obtain ⟨K, fd, Γ, f, cs, kin, eK, h1, h2, h3, h4, hb, hf, hF⟩ := F w mg fa h Y G hmg
    subst eK
    exact ⟨Γ.K, kin, fd, cs, spF Γ 1 f, h1, h2, h3, hb, fun H a ns _ _ hH hS => law_spT h4 hf hH hS, hF⟩
  · obtain ⟨_, _, _, _, _, _, _, _, _, _, _, _, z⟩ := hc
    exact z
end Bl

/-! Own layer, part Ze: methods and classes by the head's data. -/
namespace Bl
open PySem PySem.Spec PyProof.Rows L2
section
variable {P : Program} {w : World} {K : PySem.W.Frag} {mg : Str → Option Value} {base : Heap} {Γ : Gx} {x m qual : Str} {params : Arguments} {stm : List Stmt} {scope : Scope} {NN ps : List Str} {c k n : Nat} {body : MS}
/-- a method m of the class x, the c-th -/
structure MethK (K : PySem.W.Frag) (Γ : Gx) (x : Str) (c : Nat) (m qual : Str) (params : Arguments) (stm : List Stmt) (scope : Scope) (ps : List Str) : Prop where
  ex : ∃ f fd, FunD K m qual params stm scope [] [] f fd ∧ Meth K (Γ.cl c) m f ∧ Binds K fd ps [] ∧ Cls K (Γ.cl c) ∧ fd.code = .ref (He.codeOf K (x, some m))
structure InitK (K : PySem.W.Frag) (mg : Str → Option Value) (Γ : Gx) (x : Str) (c : Nat) (qual : Str) (params : Arguments) (stm : List Stmt) (scope : Scope) (ps : List Str) : Prop where
  ex : ∃ f fd, FunD K "__init__" qual params stm scope [] [] f fd ∧ Mk K (Γ.cl c) f ∧ mg x = some (.ref (Γ.cl c)) ∧ Binds K fd ps [] ∧ fd.code = .ref (He.codeOf K (x, some "__init__"))
theorem MethK.kn (d : MethK K Γ x c m qual params stm scope ps) (S : FnScope NN ps scope) (hK : Γ.K = K) (hn : ps.length = n) (hne : ∀ q, Γ.fn q ≠ m)
    (hb : ∀ (f : Addr) (A : Around) (outer : List Env) (s : Shared) (H : Hp) (E : XK), Sx (cxOf (L2.CX P w) P w K mg base NN qual scope f (.ref (He.cT K (x, some m)).1) A outer s H E) Γ (WK E) k →
      SimSs (cxOf (L2.CX P w) P w K mg base NN qual scope f (.ref (He.cT K (x, some m)).1) A outer s H E) Γ (WK E) stm body) : KnM P w K mg base Γ (k + 1) c m n (fnM NN.length body) := by
  obtain ⟨f, fd, h1, h2, h3, h4, h5⟩ := d.ex
  exact ⟨f, fd, ps, fn_okC h1 h5 S hK hn (hb f), h2, h3, h4, hne⟩
theorem InitK.kn (d : InitK K mg Γ x c qual params stm scope ps) (S : FnScope NN ps scope) (hK : Γ.K = K) (hn : ps.length = n)
    (hb : ∀ (f : Addr) (A : Around) (outer : List Env) (s : Shared) (H : Hp) (E : XK), Sx (cxOf (L2.CX P w) P w K mg base NN qual scope f (.ref (He.cT K (x, some "__init__")).1) A outer s H E) Γ (WK E) k →
      SimSs (cxOf (L2.CX P w) P w K mg base NN qual scope f (.ref (He.cT K (x, some "__init__")).1) A outer s H E) Γ (WK E) stm body) : KnC P w K mg base Γ (k + 1) x c n (fnM NN.length body) := by
  obtain ⟨f, fd, h1, h2, h3, h4, h5⟩ := d.ex
  exact ⟨f, fd, ps, fn_okC h1 h5 S hK hn (hb f), h2, h3, h4⟩
theorem funD_code {f : Addr} {fd : FuncData} {p : He.Defn} {nm : Str} (F : FunD K nm qual params stm scope [] [] f fd) (e : f = He.fAd K p) : fd.code = .ref (He.codeOf K p) := by
  subst e
  obtain ⟨oc, od, dV, kV, doc, pm, an, cdv, ct, osl, e, lk, hcd, _, _⟩ := F.ex
  obtain ⟨cc, ec⟩ := He.codeIn_ref hcd
  have e2 : fd.code = .ref cc := by rw [e]; exact ec
  rw [He.codeOf_eq (p := p) lk e2]
  exact e2
theorem methK_of {d : He.DefD} {x m : Str} (cx : ∃ fd, FunD K d.name d.qual d.params d.body d.scope (d.dvs K) (d.kws K) (He.fAd K d.at_) fd) (hcl : Γ.cl c = He.ga K x) (f1 : (He.Fa.meth x m).ok K = true) (f2 : (He.Fa.cls x).ok K = true) (e3 : d.at_ = (x, some m)) (e4 : d.name = m) (e5 : d.dfl = []) (e6 : d.kwd = [])
    (hb : ∀ (kV doc pm : Value) (an : Option Addr) (cdv ct : Value) (us : List Value), us.length = ps.length → bindArgs (PySem.W.fnOf d.name d.qual d.params d.body d.scope .none kV doc pm an cdv ct) ⟨us, []⟩ = pure (ps.zip us)) : MethK K Γ x c m d.qual d.params d.body d.scope ps := by
  obtain ⟨fd, F⟩ := cx
  rw [show d.dvs K = [] by unfold He.DefD.dvs; rw [e5]; rfl, show d.kws K = [] by unfold He.DefD.kws; rw [e6]; rfl, e3] at F
  have hb' := F.bindsN hb
  rw [e4] at F
  exact ⟨_, fd, F, by rw [hcl]; exact He.meth_ok f1, hb', by rw [hcl]; exact He.cls_ok f2, funD_code F rfl⟩
theorem initK_of {h : Heap} (kin : K.In h) (ns : h.Ns mainGlobals mg) {d : He.DefD} {x : Str} (cx : ∃ fd, FunD K d.name d.qual d.params d.body d.scope (d.dvs K) (d.kws K) (He.fAd K d.at_) fd) (hcl : Γ.cl c = He.ga K x) (f0 : (He.Fa.glo x).ok K = true) (f1 : (He.Fa.mkr x).ok K = true) (e3 : d.at_ = (x, some ("__init__" : Str))) (e4 : d.name = "__init__") (e5 : d.dfl = []) (e6 : d.kwd = [])
    (hb : ∀ (kV doc pm : Value) (an : Option Addr) (cdv ct : Value) (us : List Value), us.length = ps.length → bindArgs (PySem.W.fnOf d.name d.qual d.params d.body d.scope .none kV doc pm an cdv ct) ⟨us, []⟩ = pure (ps.zip us)) : InitK K mg Γ x c d.qual d.params d.body d.scope ps := by
  obtain ⟨fd, F⟩ := cx
  rw [show d.dvs K = [] by unfold He.DefD.dvs; rw [e5]; rfl, show d.kws K = [] by unfold He.DefD.kws; rw [e6]; rfl, e3] at F
  have hb' := F.bindsN hb
  rw [e4] at F
  exact ⟨_, fd, F, by rw [hcl]; exact He.mkr_ok f1, by rw [hcl]; exact He.glo_ok kin ns f0, hb', funD_code F rfl⟩
theorem exF_of {h : Heap} (kin : K.In h) (ns : h.Ns mainGlobals mg) {x : Str} (hcl : Γ.cl c = He.ga K x) (f0 : (He.Fa.glo x).ok K = true) (f1 : (He.Fa.exc x).ok K = true) : ExF K mg Γ x c := by
  obtain ⟨h1, h2, h3, h4⟩ := He.exc_ok f1
  exact ⟨by rw [hcl]; exact He.glo_ok kin ns f0, by rw [hcl]; exact h1, by rw [hcl]; exact h2, by rw [hcl]; exact h3, by rw [hcl]; exact h4⟩
/-- the classes' facts by a table of names: class, its fields -/
def clB (K : PySem.W.Frag) (cN fN : List Str) (tab : List (List Nat)) : Bool := (List.range tab.length).all fun c => (tab.getD c []).isEmpty || ((He.Fa.cls (cN.getD c Str.empty)).ok K && (tab.getD c []).all fun q => (He.Fa.noat (cN.getD c Str.empty) (fnOf fN q)).ok K)
theorem clT_of {tab : List (List Nat)} {fN cN : List Str} (hg : fnGood fN = true) (hfn : Γ.fn = fnOf fN) (hcl : ∀ c, Γ.cl c = He.ga K (cN.getD c Str.empty)) (h : clB K cN fN tab = true) : ClT K Γ tab := by
  refine ⟨by rw [hfn]; exact fnOf_inj hg, fun c fs e ne => ?_⟩
  have hc : c < tab.length := (List.getElem?_eq_some_iff.mp e).1
  have q := List.all_eq_true.mp h c (List.mem_range.mpr hc)
  have eg : tab.getD c [] = fs := by rw [List.getD_eq_getElem?_getD, e]; rfl
  rw [eg, Bool.or_eq_true, Bool.and_eq_true, List.all_eq_true] at q
  rcases q with q | ⟨q1, q2⟩
  · exact absurd (List.isEmpty_iff.mp q) ne
  · refine ⟨by rw [hcl]; exact He.cls_ok q1, fun k hk => ?_⟩
    rw [hcl, hfn]
    exact He.noat_ok (q2 k hk)
theorem gv_wd {i : Nat} (h : mg x = some (.ref (Γ.wd i))) : Gv mg Γ x (.wdc i) := ⟨.ref (Γ.wd i), .ref (Γ.wd i), h, rfl, fun ρ N H m => by unfold Rep; rfl⟩
end
/-- a class's statement -/
def clsStm (s : Stmt) (j : Nat) : Stmt := match s with
  | .ClassDef _ _ _ body _ _ _ _ _ _ _ => body.getD j (.Pass ⟨0, 0, 0, 0⟩)
  | _ => .Pass ⟨0, 0, 0, 0⟩
end Bl

/-! Own layer, part Zf: range with a step; enumerate of a range. -/
namespace Bl
open PySem PySem.Spec PyProof.Rows L2
section
variable {prog : Program} {w : World} {A : Around} {E : Value → Shared → Prop} {s : Shared}
theorem next_rng_item {it : Addr} {x left step : Int} {Q : Value → Shared → Prop} (hit : IsRangeIter s.heap it x left step) (hleft : 0 < left)
    (hQ : ∀ h', IsRangeIter h' it (x + step) (left - 1) step → Heap.SameBut it s.heap h' → Q (.int x s.toks) { s with heap := h', toks := s.toks + 1 }) :
    wpAny (model prog w) A (Builtin.SmallTypes.nextOf (.ref it)) Q E s := by
  have ty : s.TypeIs (.ref it) "range_iterator" := ⟨_, hit, rfl⟩
  unfold Builtin.SmallTypes.nextOf
  refine wpAny_bind (wpAny_callSpecial?_slot (name := Str.ofString "__next__") ty F.slot_range_iterator_next ?_)
  refine call_meets F.slot_range_iterator_next ty F.entry_range_iterator_next (F.args_range_iterator_next_1 _) (AutoRange.range_iterator___next___range_iterator_1 it x left step (by omega)) ⟨hit, ?_⟩
  exact wpAny_pure (hQ _ (Heap.get?_update_self _ (Heap.get?_update_self _ hit rfl) rfl) ((Heap.SameBut.update ..).trans (Heap.SameBut.update ..)))
theorem next_rng_end {it : Addr} {x left step : Int} {Q : Value → Shared → Prop} (hh : A.handled = none) (hit : IsRangeIter s.heap it x left step) (hleft : left ≤ 0)
    (hE : ∀ h' e, Heap.ExtBut it s.heap h' → (∃ o, h'.get? e = some o ∧ o.cls = .type "StopIteration") → E (.ref e) { s with heap := h' }) : wpAny (model prog w) A (Builtin.SmallTypes.nextOf (.ref it)) Q E s := by
  have ty : s.TypeIs (.ref it) "range_iterator" := ⟨_, hit, rfl⟩
  unfold Builtin.SmallTypes.nextOf
  refine wpAny_bind (wpAny_callSpecial?_slot (name := Str.ofString "__next__") ty F.slot_range_iterator_next ?_)
  refine wpAny_call_entry F.slot_range_iterator_next ty F.entry_range_iterator_next ?_ (F.args_range_iterator_next_1 _)
  change wpAny _ A.in1 (field (Value.ref it) 0 >>= _) _ _ s
  refine wpAny_bind (wpAny_field hit rfl (x := rawInt x) rfl ?_)
  change wpAny _ A.in1 (field (Value.ref it) 1 >>= _) _ _ s
  refine wpAny_bind (wpAny_field hit rfl (x := rawInt left) rfl ?_)
  change wpAny _ A.in1 (field (Value.ref it) 2 >>= _) _ _ s
  refine wpAny_bind (wpAny_field hit rfl (x := rawInt step) rfl ?_)
  change wpAny _ A.in1 (if left ≤ 0 then _ else _) _ _ s
  rw [if_pos hleft]
  refine wpAny_bind (wpAny_rule ?_)
  refine wpAny_bind ?_
  change wpAny _ A.in1 (newExc (Value.type "StopIteration") [] >>= _) _ _ _
  refine wpAny_bind ?_
  simp only [newExc, newTuple]
  refine wpAny_bind (wpAny_newObj_type ?_ (by size_fits))
  refine wpAny_bind (m := firstArgMember _ _) (wpAny_of_eq (a := Value.none) (by first | rfl | (simp only [firstArgMember]; rfl)) ?_)
  refine wpAny_newObj_type ?_ (by size_fits)
  simp only [raiseNew]
  refine wpAny_bind (wpAny_handled ?_)
  first | rw [show A.in1.handled = none from hh] | rw [hh]
  refine wpAny_bind (wpAny_pure (wpAny_throw ?_))
  exact hE _ _ (((Heap.ExtBut.refl it s.heap).push _).push _) ⟨_, Heap.get?_push_size _ rfl, rfl⟩
end
theorem draws_rng {prog : Program} {w : World} {A : Around} (hh : A.handled = none) (it : Addr) (lo c : Int) (n : Nat) :
    Draws prog w A it [it] n (fun i v => ∃ t, v = .int (lo + (i : Nat) * c) t) (fun i h => IsRangeIter h it (lo + (i : Nat) * c) ((n : Int) - (i : Nat)) c) where
  live := fun _ _ st => ⟨_, st⟩
  frame := fun _ _ _ st hk => hk it (by simp) _ st
  item := fun i s Q E hi st hQ => next_rng_item st (by omega) fun h' hit sb => hQ _ h' _ ⟨_, rfl⟩ (by
    have e1 : lo + ((i + 1 : Nat) : Int) * c = lo + (i : Int) * c + c := by push_cast; rw [Int.add_mul, Int.one_mul, Int.add_assoc]
    have e2 : (n : Int) - ((i + 1 : Nat) : Int) = (n : Int) - (i : Int) - 1 := by push_cast; omega
    rw [e1, e2]; exact hit) sb
  done := fun s Q E st hE => next_rng_end hh st (by omega) hE
theorem begins_rng (r : Addr) (a b c : Int) (t u v : Tok) (hs : Builtin.Range.small a b c = true) : Begins (.ref r) { cls := .type "range_iterator", data := .fields #[rawInt a, rawInt (Builtin.Range.rangeSize a b c), rawInt c] } fun h => IsRange h r a b c t u v where
  iter := fun prog w A E s Q hr h => wpAny_pyIter_range hr hs h
  keeps := fun h h' x hk => hk r _ x
  free := rfl
/-- lo, lo + c, .. (n of them), each in a new pair -/
def IteR (lo c : Int) (n : Nat) : It where
  go := fun i _ => i < n
  yld := fun i H v H' => ∃ T, v = .ref T ∧ H T = none ∧ H' = upd H T (.tup [.int (i : Nat), .int (lo + (i : Nat) * c)])
  stop := fun i _ => n = i
theorem turn_enR {P : Program} {w : World} {K : PySem.W.Frag} {elts : List Expr} {kk : Nat} {tpos : Pos} (lo c : Int) (n : Nat) (e it : Addr) :
    Turn P w K (.Tuple elts kk tpos) (IteR lo c n) [e, it] e (fun i h => ((∃ old, IsEnum h e it ((i : Nat) : Int) old) ∧ IsRangeIter h it (lo + (i : Nat) * c) ((n : Int) - (i : Nat)) c) ∧ e ≠ it) where
  mem := by simp
  obj := fun i h st b hb => by
    obtain ⟨⟨⟨old, he⟩, hr⟩, _⟩ := st
    rcases List.mem_cons.mp hb with z | z
    · rw [z]; exact ⟨_, he, fun v q => nomatch q⟩
    · rw [List.mem_singleton.mp z]; exact ⟨_, hr, fun v q => nomatch q⟩
  keep := fun i h h' st k => let ⟨⟨⟨old, he⟩, hr⟩, hne⟩ := st; ⟨⟨⟨old, k e (by simp) _ he⟩, k it (by simp) _ hr⟩, hne⟩
  item := by
    intro X hP hw hK hc i pins s σ H E I hf st hg
    subst hP hw hK
    obtain ⟨⟨⟨old, he⟩, hit⟩, hne⟩ := st
    refine wpAny_mono (enumD_item (elts := elts) (kk := kk) (tpos := tpos) (Y := fun z => z = .int (lo + (i : Nat) * c)) I hf he hne (Heap.lt_size hit) (draws_rng (show X.A.in1.handled = none from I.ok.hd hc) it lo c n) hit hg (by simp [hne]) ?_) (fun r s1 => ?_) fun _ _ q => q
    · intro v ⟨u, hv⟩
      exact ⟨.int (lo + (i : Nat) * c), ⟨u, hv⟩, rfl⟩
    · intro ⟨u', e1, h1⟩
      refine ⟨u', e1, wpAny_mono h1 (fun _ s2 => ?_) fun _ _ q => q⟩
      intro ⟨y, H', I1, ry, ⟨T, z, e2, nT, eH, hz⟩, ⟨he', st'⟩, fr⟩
      subst hz
      exact ⟨y, H', I1, ry, ⟨T, e2, nT, eH⟩, ⟨⟨he', st'⟩, hne⟩, fr⟩
  done := by
    intro X hP hw hK hc i pins s σ H E I hf st hg
    subst hP hw hK
    obtain ⟨⟨⟨old, he⟩, hit⟩, hne⟩ := st
    have e1 : n = i := hg
    exact enumD_done I hf he (draws_rng (show X.A.in1.handled = none from I.ok.hd hc) it lo c n) (by rw [e1]; rw [e1] at hit; exact hit)
  self := fun A i s Q E st h => let ⟨⟨⟨_, he⟩, _⟩, _⟩ := st; wpAny_pyIter_enum he h
def iEnR (ta : TA) : TI := fun σ H R => ta σ H fun vs H1 => ∃ (i j c : Int) (n : Nat), vs = [.int i, .int j, .int c] ∧ RgC i j c n ∧ R (IteR i c n) H1
theorem pi_enR {X : Cx} {a b c : Expr} {ta : TA} {p p2 pos pos2 tpos : Pos} {elts : List Expr} {kk : Nat} (hg : Gl X "enumerate") (hm : X.mg "enumerate" = none) (hg2 : Gl X "range") (hm2 : X.mg "range" = none) (ha : PA X [a, b, c] ta)
    (hs : starEach [.Call (.Name "range" p2) [a, b, c] [] pos2] X.env = [(false, eval (.Call (.Name "range" p2) [a, b, c] [] pos2) X.env)] := by rfl)
    (hs2 : starEach [a, b, c] X.env = (false, eval a X.env) :: starEach [b, c] X.env := by rfl) (hpl : (backTo pos2 (starEach [b, c] X.env)).any (·.1) = false := by rfl) :
    PI X (.Tuple elts kk tpos) (.Call (.Name "enumerate" p) [.Call (.Name "range" p2) [a, b, c] [] pos2] [] pos) (iEnR ta) := by
  refine ⟨fun pins s σ H R I h => Call_ (ld_blt I hg hm boot_enumerate (PyProof.Rows.callWith_type1 ?_ hs rfl))⟩
  rw [hs]
  show wpAny _ _ (spliced ((false, eval (.Call (.Name "range" p2) [a, b, c] [] pos2) X.env) :: backTo pos [])) _ _ s
  refine Calls.spliced_cons ?_
  refine Call_ (ld_blt I hg2 hm2 boot_range (PyProof.Rows.callWith_type1 (thn (ha.run pos2 pins s σ H _ I h) fun us s1 ⟨vs, H1, I1, r1, q1⟩ => ?_) hs2 hpl))
  obtain ⟨i, j, k, n, e, ⟨c0, c1, c2, c3⟩, q⟩ := q1
  subst e
  cases r1 with
  | cons ra rr =>
    cases rr with
    | cons rb rr =>
      cases rr with
      | cons rc rr =>
        cases rr
        obtain ⟨t, rfl⟩ := ra
        obtain ⟨t', rfl⟩ := rb
        obtain ⟨t'', rfl⟩ := rc
        refine call_range_3 c0 ?_ (.inl (PyProof.noPylong_small c1))
        refine Calls.spliced_nil ?_
        have I2 : Inv X pins σ H1 { s1 with heap := s1.heap.push { cls := .type "range", data := .fields #[.int i t, .int j t', .int k t''] } } := I1.kept (t' := s1.toks) fun b o e => Heap.get?_push_of_some _ e
        refine enum1_begins (begins_rng s1.heap.objs.size i j k t t' t'' c2) (IsRange.new ..) fun h' he hit hk => wpAny_pyIter_enum he ?_
        generalize hz : (s1.heap.push { cls := .type "range", data := .fields #[.int i t, .int j t', .int k t''] }).objs.size = z at he hit
        have two : ∀ b, b ∈ [z + 1, z] → FpOk X pins H1 b := fun b hb => by
          have hle : (s1.heap.push { cls := .type "range", data := .fields #[.int i t, .int j t', .int k t''] }).objs.size ≤ b := by
            rw [hz]
            rcases List.mem_cons.mp hb with q | q
            · rw [q]; exact Nat.le_succ _
            · rw [List.mem_singleton.mp q]; exact Nat.le_refl _
          exact I2.fpOk hle (I2.hok.fresh hle)
        refine ⟨z + 1, [z + 1, z], _, _, H1, rfl, I2.kept (t' := s1.toks) hk, turn_enR i k n (z + 1) z, ⟨⟨⟨.none, he⟩, ?_⟩, Nat.succ_ne_self _⟩, two, q⟩
        have e1 : i + ((0 : Nat) : Int) * k = i := by simp
        have e2 : (n : Int) - ((0 : Nat) : Int) = Builtin.Range.rangeSize i j k := by rw [c3]; simp
        show IsRangeIter _ _ (i + ((0 : Nat) : Int) * k) ((n : Int) - ((0 : Nat) : Int)) k
        rw [e1, e2]
        exact hit
/-! ### the clean side -/
def rngC (lo c : Int) (n : Nat) : ITc := ⟨n + 1, fun i _ => if i ≤ n then some (if i < n then some (.int (lo + (i : Nat) * c)) else none) else none⟩
/-- range's three numbers -/
def rg3 : List CV → Option (Int × Int × Int × Nat)
  | [.int i, .int j, .int c] => if (decide (c ≠ 0) && (decide (c.natAbs < 1073741824) && Builtin.Range.small i j c)) = true then (match Builtin.Range.rangeSize i j c with
    | .ofNat n => some (i, j, c, n)
    | _ => none) else none
  | _ => none
def itR3 (as : List CV) (_ : Hc) : Option ITc := match rg3 as with
  | some (i, _, c, n) => some (rngC i c n)
  | none => none
def itEnR (as : List CV) (_ : Hc) : Option ITc := match rg3 as with
  | some (i, _, c, n) => some (enumI (rngC i c n))
  | none => none
section
variable {X : Cx} {Γ : Gx} {W : WX} {k : Nat} {F : List Nat} {ρ : Rh} {N : Nat} {H : Hp} {σ : L2.St} {env : En} {hp : Hc} {D : Ends} {pos : Pos}
theorem rg3_ok {as : List CV} {xs : List V} {i j c : Int} {n m : Nat} (h : Reps Γ ρ N H m as xs) (e : rg3 as = some (i, j, c, n)) : xs = [.int i, .int j, .int c] ∧ RgC i j c n := by
  unfold rg3 at e
  split at e
  · split at e
    · rename_i i' j' c' hk
      simp only [Bool.and_eq_true, decide_eq_true_eq] at hk
      split at e
      · rename_i n' en
        cases e
        unfold Reps at h
        obtain ⟨u, r, rfl, h1, h2⟩ := h
        obtain ⟨v, w, rfl, h3, h4⟩ := reps_two h2
        unfold Rep at h1 h3 h4
        subst h1 h3 h4
        exact ⟨rfl, hk.1, hk.2.1, hk.2.2, en⟩
      · cases e
    · cases e
  · cases e
theorem itok_rngC {lo c : Int} {n : Nat} : ItOk Γ F ρ N H (Itc lo c n) (rngC lo c n).next := by
  intro i ρ2 hp2 H2 s r
  show match (if i ≤ n then some (if i < n then some (CV.int (lo + (i : Nat) * c)) else none) else none) with | none => True | some none => _ | some (some v) => _
  by_cases hi : i ≤ n
  · rw [if_pos hi]
    by_cases hl : i < n
    · rw [if_pos hl]
      refine ⟨hl, fun x H' y => ?_⟩
      obtain ⟨rfl, rfl⟩ := y
      exact ⟨Step.refl, r, repI⟩
    · rw [if_neg hl]
      exact Nat.le_of_not_lt hl
  · rw [if_neg hi]
    trivial
theorem itok_enR {lo c : Int} {n : Nat} : ItOk Γ F ρ N H (IteR lo c n) (enumI (rngC lo c n)).next := by
  intro i ρ2 hp2 H2 s r
  show match (match (if i ≤ n then some (if i < n then some (CV.int (lo + (i : Nat) * c)) else none) else none) with | some (some v) => some (some (CV.tup [.int i, v])) | some none => some none | none => none) with | none => True | some none => _ | some (some v) => _
  by_cases hi : i ≤ n
  · rw [if_pos hi]
    by_cases hl : i < n
    · rw [if_pos hl]
      refine ⟨hl, fun x H' y => ?_⟩
      obtain ⟨T, rfl, hT, rfl⟩ := y
      exact ⟨step_new hT, r.new hT, rep_pair r hT repI repI⟩
    · rw [if_neg hl]
      exact Nat.le_antisymm (Nat.le_of_not_lt hl) hi
  · rw [if_neg hi]
    trivial
theorem sim_r3 {tg a b c : Expr} {ms : List (M CV)} {p pos : Pos} (hg : Gl X "range") (hm : X.mg "range" = none) (ha : SimA X Γ W [a, b, c] (evA ms))
    (hs : starEach [a, b, c] X.env = (false, eval a X.env) :: starEach [b, c] X.env := by rfl) (hpl : (backTo pos (starEach [b, c] X.env)).any (·.1) = false := by rfl) :
    SimI X Γ W tg (.Call (.Name "range" p) [a, b, c] [] pos) (mIt (evA ms) itR3) :=
  pi_imp (pi_range3 hg hm ha hs hpl) fun σ H Q q => by
    refine rd_mono (mIt_ok (re := reA Γ) q) fun xs H1 ⟨ρ1, F, hp1, as, it, r1, h1, e1, hJ⟩ => ?_
    unfold itR3 at e1
    split at e1
    · rename_i i j c n eg
      cases e1
      obtain ⟨rfl, g⟩ := rg3_ok h1 eg
      exact ⟨i, j, c, n, rfl, g, hJ _ itok_rngC⟩
    · cases e1
theorem sim_ienR {a b c : Expr} {ms : List (M CV)} {p p2 pos pos2 tpos : Pos} {elts : List Expr} {kk : Nat} (hg : Gl X "enumerate") (hm : X.mg "enumerate" = none) (hg2 : Gl X "range") (hm2 : X.mg "range" = none) (ha : SimA X Γ W [a, b, c] (evA ms))
    (hs : starEach [.Call (.Name "range" p2) [a, b, c] [] pos2] X.env = [(false, eval (.Call (.Name "range" p2) [a, b, c] [] pos2) X.env)] := by rfl)
    (hs2 : starEach [a, b, c] X.env = (false, eval a X.env) :: starEach [b, c] X.env := by rfl) (hpl : (backTo pos2 (starEach [b, c] X.env)).any (·.1) = false := by rfl) :
    SimI X Γ W (.Tuple elts kk tpos) (.Call (.Name "enumerate" p) [.Call (.Name "range" p2) [a, b, c] [] pos2] [] pos) (mIt (evA ms) itEnR) :=
  pi_imp (pi_enR hg hm hg2 hm2 ha hs hs2 hpl) fun σ H Q q => by
    refine rd_mono (mIt_ok (re := reA Γ) q) fun xs H1 ⟨ρ1, F, hp1, as, it, r1, h1, e1, hJ⟩ => ?_
    unfold itEnR at e1
    split at e1
    · rename_i i j c n eg
      cases e1
      obtain ⟨rfl, g⟩ := rg3_ok h1 eg
      exact ⟨i, j, c, n, rfl, g, hJ _ itok_enR⟩
    · cases e1
end
end Bl

/-! Own layer, part Zg: a tuple said to be any tuple; a call, a block, over the clean heap of one object alone. -/
namespace Bl
open PySem PySem.Spec PyProof.Rows L2
section
variable {X : Cx} {Γ : Gx} {W : WX} {k : Nat} {F : List Nat} {ρ ρ' : Rh} {N N' : Nat} {H H' : Hp} {σ : L2.St} {env : En} {hp : Hc} {D : Ends} {pos : Pos}
/-- the same value, said to be any tuple -/
def wkV : CV → CV
  | .tup xs => .wtp xs
  | v => v
def eWk (m : M CV) : M CV := fun env hp => (m env hp).bind fun v hp => .ok (wkV v) hp
theorem wk_rep {m : Nat} {x : CV} {v : V} (h : Rep Γ ρ N H m x v) : Rep Γ ρ N H m (wkV x) v := by
  unfold wkV
  split
  · unfold Rep at h ⊢
    obtain ⟨a, vs, e, r, q⟩ := h
    exact ⟨a, vs, e, .inl r, q⟩
  · exact h
theorem sim_wk {e : Expr} {m : M CV} (h : SimE X Γ W e m) : SimE X Γ W e (eWk m) := pe_imp h fun σ H Q q => by
  obtain ⟨ρ, F, hp, env, r, e, p⟩ := q
  refine ⟨ρ, F, hp, env, r, e, ?_⟩
  unfold eWk at p
  revert p
  generalize m env hp = z
  intro p
  cases z with
  | ok v hp' => exact fun ρ' H' x s r' e' => p ρ' H' x s r' (wk_rep e')
  | exc c fs hp' => exact p
  | stuck => exact p

/-! ### all but one hidden -/
def sw (a b i : Nat) : Nat := if i = a then b else if i = b then a else i
theorem sw_sw (a b i : Nat) : sw a b (sw a b i) = i := by
  unfold sw
  split
  · rename_i h; subst h
    by_cases e : b = i
    · rw [if_pos e]; exact e
    · rw [if_neg e, if_pos rfl]
  · split
    · rename_i h1 h2; rw [if_pos rfl]; exact h2.symm
    · rfl
theorem sw_lt {a b i n : Nat} (ha : a < n) (hb : b < n) (hi : i < n) : sw a b i < n := by
  unfold sw; split
  · exact hb
  · split
    · exact ha
    · exact hi
def hideD (ρ : Rh) (N d : Nat) : Rh := ⟨ρ.b + N - 1, fun i => ρ.f (sw (ρ.b + d) (ρ.b + N - 1) i)⟩
theorem hideD_b {d : Nat} (hd : d < N) : (hideD ρ N d).b + 1 = ρ.b + N := by show ρ.b + N - 1 + 1 = _; omega
theorem hideD_at {d : Nat} (hd : d < N) : (hideD ρ N d) 0 = ρ d := by
  show ρ.f (sw (ρ.b + d) (ρ.b + N - 1) (ρ.b + N - 1 + 0)) = ρ.f (ρ.b + d)
  rw [Nat.add_zero]
  congr 1
  unfold sw
  split
  · rename_i h; exact h
  · rw [if_pos rfl]
theorem own_hideD {d : Nat} (hd : d < N) {a : Addr} : Own (hideD ρ N d) 1 a ↔ Own ρ N a := by
  constructor
  · intro ⟨i, hi, e⟩
    rw [hideD_b hd] at hi
    exact ⟨sw (ρ.b + d) (ρ.b + N - 1) i, sw_lt (by omega) (by omega) hi, e⟩
  · intro ⟨i, hi, e⟩
    refine ⟨sw (ρ.b + d) (ρ.b + N - 1) i, by rw [hideD_b hd]; exact sw_lt (by omega) (by omega) hi, ?_⟩
    show ρ.f (sw _ _ (sw _ _ i)) = a
    rw [sw_sw]; exact e
theorem RepO.congr0 (ho : ∀ a, Own ρ' N' a → Own ρ N a) {m m' : Nat} {a : Addr} : ∀ {o : CO}, limO 0 o = true → RepO Γ ρ N H m a o → RepO Γ ρ' N' H m' a o
  | .lst xs, l, h => by
    obtain ⟨vs, e, q⟩ := h
    exact ⟨vs, e, Reps.congr0 ho _ (Reps.trunc (Nat.le_refl _) _ (.inr l) q)⟩
  | .dic false kvs, l, h => by
    obtain ⟨vs, e, q⟩ := h
    exact ⟨vs, e, RepK.congr0 ho _ (RepK.trunc (Nat.le_refl _) _ (.inr l) q)⟩
  | .dic true kvs, l, h => by
    obtain ⟨vs, e, q⟩ := h
    exact ⟨vs, e, RepT.congr0 ho _ (RepT.trunc (Nat.le_refl _) _ (.inr l) q)⟩
  | .ins c fs, l, h => by
    obtain ⟨dx, vs, e, q⟩ := h
    exact ⟨dx, vs, e, RepF.congr0 ho _ (RepF.trunc (Nat.le_refl _) _ (.inr l) q)⟩
theorem SRh.hideD (r : SRh Γ ρ F hp H) {d : Nat} {o : CO} (hd : hp.os[d]? = some o) (ho : limO 0 o = true) : SRh Γ (hideD ρ hp.N d) [] ⟨0, [o]⟩ H := by
  have hl : d < hp.N := (List.getElem?_eq_some_iff.mp hd).1
  have hb := hideD_b (ρ := ρ) hl
  refine ⟨fun i j hi hj e => ?_, fun i hi => ?_, fun i u e => ?_, Nat.zero_le _, fun f h => (by cases h), r.tab⟩
  · have hi' : i < ρ.b + hp.N := by rw [← hb]; exact hi
    have hj' : j < ρ.b + hp.N := by rw [← hb]; exact hj
    have z := r.inj _ _ (sw_lt (a := ρ.b + d) (b := ρ.b + hp.N - 1) (by omega) (by omega) hi') (sw_lt (a := ρ.b + d) (b := ρ.b + hp.N - 1) (by omega) (by omega) hj') e
    have z2 := congrArg (sw (ρ.b + d) (ρ.b + hp.N - 1)) z
    rwa [sw_sw, sw_sw] at z2
  · have hi' : i < ρ.b + hp.N - 1 := hi
    exact r.all _ (sw_lt (by omega) (by omega) (by omega))
  · cases i with
    | zero =>
      have e' : o = u := Option.some.inj e
      subst e'
      rw [hideD_at hl]
      exact RepO.congr0 (fun a q => (own_hideD hl).mp q) ho (r.obj d o hd)
    | succ i => simp at e
/-- behind it: the caller's side stands, the one object as it is now -/
theorem hideD_step {d : Nat} (hd : d < hp.N) (s : Step (Bl.hideD ρ hp.N d) 1 H ρ' N' H') (inj : InjR ρ' N') : Step ρ hp.N H ρ hp.N H' := by
  have hb := hideD_b (ρ := ρ) hd
  refine ⟨Nat.le_refl _, rfl, fun _ _ => rfl, fun _ i u hi q h => ?_, fun a u q h => ⟨h.1, (s.keep a u q ⟨fun o => h.1 ((own_hideD hd).mp o), h.2⟩).2⟩, fun a u q h => ⟨h.1, (s.keepI a u q ⟨fun o => h.1 ((own_hideD hd).mp o), h.2⟩).2⟩⟩
  have e : sw (ρ.b + d) (ρ.b + hp.N - 1) i = i := by
    unfold sw; rw [if_neg (by omega), if_neg (by omega)]
  have e2 : (Bl.hideD ρ hp.N d).f i = ρ.f i := by show ρ.f (sw _ _ i) = _; rw [e]
  have z := s.hid inj i u (by show i < ρ.b + hp.N - 1; omega) q (by rw [e2]; exact h)
  rwa [e2] at z
theorem hideD_own {d : Nat} (hd : d < hp.N) (s : Step (Bl.hideD ρ hp.N d) 1 H ρ' N' H') (a : Addr) (h : Own ρ hp.N a) : Own ρ' N' a := by
  obtain ⟨i, hi, e⟩ := (own_hideD hd).mpr h
  exact ⟨i, by rw [s.base]; exact Nat.lt_of_lt_of_le hi (Nat.add_le_add_left s.le _), by rw [s.agr i hi]; exact e⟩
theorem hideD_srh (r : SRh Γ ρ F hp H) {d : Nat} {o o' : CO} (hd : hp.os[d]? = some o) {fl : Nat} {rest : List CO} (s : Step (Bl.hideD ρ hp.N d) 1 H ρ' (Hc.N ⟨fl, o' :: rest⟩) H') (r' : SRh Γ ρ' [] ⟨fl, o' :: rest⟩ H') (lo : limO 0 o' = true) : SRh Γ ρ F (hp.set d o') H' := by
  have hl : d < hp.N := (List.getElem?_eq_some_iff.mp hd).1
  have hb := hideD_b (ρ := ρ) hl
  have st := hideD_step hl s r'.inj
  refine ⟨fun i j hi hj e => ?_, fun i hi => (let ⟨u, q, z⟩ := r.hidt i hi; ⟨u, q, st.hid r.inj i u hi (ownK_stab q) z⟩), fun i u e => ?_, ?_, fun f hf => ⟨(r.fls f hf).1, fun i u hi e => ?_⟩, r'.tab⟩
  · rw [Hc.set_N] at hi hj; exact r.inj i j hi hj e
  · rw [Hc.set_N]
    have z : (hp.os.set d o')[i]? = some u := e
    by_cases hid : d = i
    · subst hid
      rw [List.getElem?_set_self hl] at z
      cases z
      have q := r'.obj 0 o' rfl
      have ea : ρ' 0 = ρ d := by rw [s.agree 0 (Nat.zero_lt_one)]; exact hideD_at hl
      rw [ea] at q
      exact RepO.congr0 (fun a h => hideD_own hl s a h) lo q
    · rw [List.getElem?_set_ne hid] at z
      have hi : i < hp.N := (List.getElem?_eq_some_iff.mp z).1
      obtain ⟨w, q, hw⟩ := (r.obj i u z).ownK
      refine (r.obj i u z).mono st (Nat.le_refl _) (Nat.le_refl _) ?_
      rw [hw]
      -- the object is one of the hidden
      let j := sw (ρ.b + d) (ρ.b + hp.N - 1) (ρ.b + i)
      have hj : j < ρ.b + hp.N - 1 := by
        show sw (ρ.b + d) (ρ.b + hp.N - 1) (ρ.b + i) < _
        unfold sw
        rw [if_neg (by omega)]
        split
        · omega
        · omega
      have ej : (Bl.hideD ρ hp.N d).f j = ρ i := by
        show ρ.f (sw _ _ (sw _ _ (ρ.b + i))) = ρ.f (ρ.b + i)
        rw [sw_sw]
      have z2 := s.hid r'.inj j w hj (ownK_stab q) (by rw [ej]; exact hw)
      rwa [ej] at z2
  · rw [Hc.set_N]; exact r.fl
  · have z : (hp.os.set d o')[i]? = some u := e
    by_cases hid : d = i
    · subst hid
      rw [List.getElem?_set_self hl] at z
      cases z
      exact limO_mono (Nat.zero_le _) _ lo
    · rw [List.getElem?_set_ne hid] at z
      exact (r.fls f hf).2 i u hi z
theorem excR_congr (ho : ∀ a, Own ρ' N' a → Own ρ N a) {fs : List (Nat × CV)} {d : Option Addr} (h : ExcR Γ ρ N H fs d) : ExcR Γ ρ' N' H fs d := by
  rcases h with h | ⟨a, ds, e1, e2, q⟩
  · exact .inl h
  · exact .inr ⟨a, ds, e1, e2, RepF.congr0 ho _ q⟩

/-! ### a call with one living argument -/
def locD (i : Nat) (f : Fn) : Fn := fun args hp => match args[i]? with
  | some (.ref d) => match hp.os[d]? with
    | some o => if (limO 0 o && limL 0 (args.set i .non)) = true then (match f (args.set i (.ref 0)) ⟨0, [o]⟩ with
      | .ok v ⟨_, o' :: r⟩ => if limO 0 o' = true then (match frzV (o' :: r) 1 v with
          | some v' => if limV 0 v' = true then .ok v' (hp.set d o') else .stuck
          | none => .stuck) else .stuck
      | .exc c fs ⟨_, o' :: _⟩ => if limO 0 o' = true then .exc c fs (hp.set d o') else .stuck
      | _ => .stuck) else .stuck
    | none => .stuck
  | _ => .stuck
theorem reps_hide {d : Nat} (hd : d < hp.N) : ∀ {i : Nat} {args : List CV} {vs : List V}, args[i]? = some (.ref d) → limL 0 (args.set i .non) = true → Reps Γ ρ hp.N H hp.N args vs → Reps Γ (Bl.hideD ρ hp.N d) 1 H 1 (args.set i (.ref 0)) vs
  | _, [], _, e, _, _ => by simp at e
  | 0, x :: xs, vs, e, l, h => by
    unfold Reps at h
    obtain ⟨v, r, rfl, h1, h2⟩ := h
    simp only [List.getElem?_cons_zero, Option.some.injEq] at e
    subst e
    have l' : limL 0 xs = true := by
      have z : limL 0 (.non :: xs) = true := l
      unfold limL at z
      rw [Bool.and_eq_true] at z
      exact z.2
    show Reps Γ _ 1 H 1 (.ref 0 :: xs) (v :: r)
    unfold Reps
    refine ⟨v, r, rfl, ?_, Reps.congr0 (fun a q => (own_hideD hd).mp q) _ (Reps.trunc (Nat.le_refl _) _ (.inr l') h2)⟩
    unfold Rep at h1 ⊢
    exact ⟨Nat.zero_lt_one, by rw [hideD_at hd]; exact h1.2⟩
  | i + 1, x :: xs, vs, e, l, h => by
    unfold Reps at h
    obtain ⟨v, r, rfl, h1, h2⟩ := h
    have z : limL 0 (x :: xs.set i .non) = true := l
    unfold limL at z
    rw [Bool.and_eq_true] at z
    show Reps Γ _ 1 H 1 (x :: xs.set i (.ref 0)) (v :: r)
    unfold Reps
    exact ⟨v, r, rfl, Rep.congr0 (fun a q => (own_hideD hd).mp q) _ (Rep.trunc (Nat.le_refl _) _ (.inr z.1) h1), reps_hide hd (by simpa using e) z.2 h2⟩
theorem locD_post {i : Nat} {f : Fn} {args : List CV} {vs : List V} {Q : VK} (r : SRh Γ ρ F hp H) (e : Reps Γ ρ hp.N H hp.N args vs) (p : Post Γ F W σ ρ hp.N H (reV Γ) (locD i f args hp) Q) :
    ∃ ρ1 hp1 args1, SRh Γ ρ1 [] hp1 H ∧ Reps Γ ρ1 hp1.N H hp1.N args1 vs ∧ Post Γ [] W σ ρ1 hp1.N H (reV Γ) (f args1 hp1) Q := by
  unfold locD at p
  split at p
  · rename_i d ha
    split at p
    · rename_i o hd
      split at p
      · rename_i hl
        rw [Bool.and_eq_true] at hl
        have hN : d < hp.N := (List.getElem?_eq_some_iff.mp hd).1
        refine ⟨Bl.hideD ρ hp.N d, ⟨0, [o]⟩, args.set i (.ref 0), r.hideD hd hl.1, reps_hide hN ha hl.2 e, ?_⟩
        revert p
        generalize f (args.set i (.ref 0)) ⟨0, [o]⟩ = z
        intro p
        cases z with
        | stuck => exact p
        | exc c fs hp' =>
          obtain ⟨fl, os⟩ := hp'
          cases os with
          | nil => exact p.elim
          | cons o' rest =>
            have p' : Post Γ F W σ ρ hp.N H (reV Γ) (if limO 0 o' = true then .exc c fs (hp.set d o') else .stuck) Q := p
            split at p'
            · rename_i lo
              intro ρ' H' dd s r' q
              refine p' ρ H' dd ?_ (hideD_srh r hd s r' lo) ?_
              · rw [Hc.set_N]; exact hideD_step hN s r'.inj
              · rw [Hc.set_N]; exact excR_congr (fun a h => hideD_own hN s a h) q
            · exact p'.elim
        | ok v hp' =>
          obtain ⟨fl, os⟩ := hp'
          cases os with
          | nil => exact p.elim
          | cons o' rest =>
            have p' : Post Γ F W σ ρ hp.N H (reV Γ) (if limO 0 o' = true then (match frzV (o' :: rest) 1 v with
          | some v' => if limV 0 v' = true then R.ok v' (hp.set d o') else .stuck
          | none => .stuck) else .stuck) Q := p
            split at p'
            · rename_i lo
              split at p'
              · rename_i v' ev
                split at p'
                · rename_i lv
                  intro ρ' H' x s r' q
                  refine p' ρ H' x ?_ (hideD_srh r hd s r' lo) ?_
                  · rw [Hc.set_N]; exact hideD_step hN s r'.inj
                  · show Rep Γ ρ (hp.set d o').N H' (hp.set d o').N v' x
                    rw [Hc.set_N]
                    have z1 : Rep Γ ρ' 1 H' 1 v' x := frzV_ok r' (by show 1 ≤ (o' :: rest).length; simp) ev q
                    have z2 : Rep Γ ρ' 1 H' 0 v' x := Rep.trunc (Nat.le_refl _) v' (.inr lv) z1
                    refine Rep.congr0 (fun a h => ?_) v' z2
                    obtain ⟨j, hj, ej⟩ := (own_hideD hN).mpr h
                    exact ⟨j, by rw [s.base]; exact hj, by rw [s.agr j hj]; exact ej⟩
                · exact p'.elim
              · exact p'.elim
            · exact p'.elim
      · exact p.elim
    · exact p.elim
  · exact p.elim
theorem Kn.locD {P : Program} {w : World} {K : PySem.W.Frag} {mg : Str → Option Value} {base : Heap} {x : Str} {n : Nat} {f : Fn} (i : Nat) (h : Kn P w K mg base Γ k x n f) : Kn P w K mg base Γ k x n (Bl.locD i f) := by
  obtain ⟨a, fd, ps, h1, h2, h3, h4⟩ := h
  refine ⟨a, fd, ps, h1.imp fun vs H Q E q => ?_, h2, h3, h4⟩
  obtain ⟨hl, ρ, F, hp, args, r, e, p⟩ := q
  obtain ⟨ρ1, hp1, args1, r1, e1, p1⟩ := locD_post r e p
  exact ⟨hl, ρ1, [], hp1, args1, r1, e1, p1⟩
theorem KnM.imp' {P : Program} {w : World} {K : PySem.W.Frag} {mg : Str → Option Value} {base : Heap} {m : Str} {c n : Nat} {f g : Fn} (h : KnM P w K mg base Γ k c m n f) (i : ∀ vs H Q E, spF Γ n g vs H Q E → spF Γ n f vs H Q E) : KnM P w K mg base Γ k c m n g := by
  obtain ⟨a, fd, ps, h1, h2⟩ := h
  exact ⟨a, fd, ps, h1.imp i, h2⟩
theorem KnM.loc {P : Program} {w : World} {K : PySem.W.Frag} {mg : Str → Option Value} {base : Heap} {m : Str} {c n : Nat} {f : Fn} (h : KnM P w K mg base Γ k c m n f) : KnM P w K mg base Γ k c m n (Bl.loc f) := h.imp' fun vs H Q E q => by
  obtain ⟨hl, ρ, F, hp, args, r, e, p⟩ := q
  obtain ⟨ha, p'⟩ := loc_post r p
  have e0 : Reps Γ ρ hp.N H 0 args vs := Reps.trunc (Nat.le_refl _) args (.inr ha) e
  have e1 : Reps Γ (Bl.hide ρ hp.N) 0 H 0 args vs := Reps.congr0 (ρ := ρ) (N := hp.N) (ρ' := Bl.hide ρ hp.N) (N' := 0) (fun a o => o) args e0
  exact ⟨hl, Bl.hide ρ hp.N, [], ⟨0, []⟩, args, r.hide, e1, p'⟩
theorem KnM.locD {P : Program} {w : World} {K : PySem.W.Frag} {mg : Str → Option Value} {base : Heap} {m : Str} {c n : Nat} {f : Fn} (i : Nat) (h : KnM P w K mg base Γ k c m n f) : KnM P w K mg base Γ k c m n (Bl.locD i f) := h.imp' fun vs H Q E q => by
  obtain ⟨hl, ρ, F, hp, args, r, e, p⟩ := q
  obtain ⟨ρ1, hp1, args1, r1, e1, p1⟩ := locD_post r e p
  exact ⟨hl, ρ1, [], hp1, args1, r1, e1, p1⟩
theorem KnC.locD {P : Program} {w : World} {K : PySem.W.Frag} {mg : Str → Option Value} {base : Heap} {x : Str} {c n : Nat} {f : Fn} (i : Nat) (h : KnC P w K mg base Γ k x c n f) : KnC P w K mg base Γ k x c n (Bl.locD i f) := by
  obtain ⟨a, fd, ps, h1, h2⟩ := h
  refine ⟨a, fd, ps, h1.imp fun vs H Q E q => ?_, h2⟩
  obtain ⟨hl, ρ, F, hp, args, r, e, p⟩ := q
  obtain ⟨ρ1, hp1, args1, r1, e1, p1⟩ := locD_post r e p
  exact ⟨hl, ρ1, [], hp1, args1, r1, e1, p1⟩

/-! ### a block over one object alone -/
def wipeR : En → En
  | [] => []
  | some v :: r => (if limV 0 v = true then some v else none) :: wipeR r
  | none :: r => none :: wipeR r
theorem wipeR_len : ∀ env : En, (wipeR env).length = env.length
  | [] => rfl
  | some v :: r => by show (wipeR r).length + 1 = _; rw [wipeR_len r]; rfl
  | none :: r => by show (wipeR r).length + 1 = _; rw [wipeR_len r]; rfl
theorem wipeR_get : ∀ (env : En) (i : Nat) (v : CV), (wipeR env)[i]? = some (some v) → env[i]? = some (some v) ∧ limV 0 v = true
  | [], i, v, h => by cases i <;> cases h
  | some u :: r, 0, v, h => by
    have h' : some (if limV 0 u = true then some u else none) = some (some v) := h
    split at h'
    · cases h'; exact ⟨rfl, by assumption⟩
    · cases h'
  | none :: r, 0, v, h => by cases h
  | some u :: r, i + 1, v, h => wipeR_get r i v h
  | none :: r, i + 1, v, h => wipeR_get r i v h
/-- the slots behind the block: slot i the object's, if it still is -/
def backE (i d : Nat) (env : En) : En := match env[i]? with
  | some (some (.ref 0)) => (wipeR env).set i (some (.ref d))
  | _ => wipeR env
def sHide (i : Nat) (b : MS) : MS := fun env hp => match env[i]? with
  | some (some (.ref d)) => match hp.os[d]? with
    | some o => if limO 0 o = true then (match b ((wipeR env).set i (some (.ref 0))) ⟨0, [o]⟩ with
      | .ok f ⟨_, o' :: r⟩ => if limO 0 o' = true then (match f with
          | .nx e => .ok (.nx (backE i d e)) (hp.set d o')
          | .bk e => .ok (.bk (backE i d e)) (hp.set d o')
          | .ct e => .ok (.ct (backE i d e)) (hp.set d o')
          | .rt v => if limV 0 v = true then .ok (.rt v) (hp.set d o') else .stuck
          | .ex c fs e => .ok (.ex c fs (backE i d e)) (hp.set d o')) else .stuck
      | _ => .stuck) else .stuck
    | none => .stuck
  | _ => .stuck
theorem hide_env {i d : Nat} (hd : d < hp.N) (hi : env[i]? = some (some (.ref d))) (e : SRe Γ ρ hp.N H σ env) : SRe Γ (Bl.hideD ρ hp.N d) 1 H σ ((wipeR env).set i (some (.ref 0))) := by
  refine ⟨by rw [List.length_set, wipeR_len]; exact e.len, fun j v q => ?_⟩
  by_cases hj : i = j
  · subst hj
    have hl : i < env.length := (List.getElem?_eq_some_iff.mp hi).1
    rw [List.getElem?_set_self (by rw [wipeR_len]; exact hl)] at q
    cases q
    obtain ⟨x, h1, h2⟩ := e.get i _ hi
    refine ⟨x, h1, ?_⟩
    unfold Rep at h2 ⊢
    exact ⟨Nat.zero_lt_one, by rw [hideD_at hd]; exact h2.2⟩
  · rw [List.getElem?_set_ne hj] at q
    obtain ⟨q1, q2⟩ := wipeR_get _ _ _ q
    obtain ⟨x, h1, h2⟩ := e.get j v q1
    exact ⟨x, h1, Rep.congr0 (fun a o => (own_hideD hd).mp o) v (Rep.trunc (Nat.le_refl _) v (.inr q2) h2)⟩
theorem back_env {i d : Nat} {env' : En} {σ' : L2.St} (hd : d < hp.N) (s : Step (Bl.hideD ρ hp.N d) 1 H ρ' N' H') (e : SRe Γ ρ' N' H' σ' env') : SRe Γ ρ hp.N H' σ' (backE i d env') := by
  have base : SRe Γ ρ hp.N H' σ' (wipeR env') := ⟨by rw [wipeR_len]; exact e.len, fun j v q => by
    obtain ⟨q1, q2⟩ := wipeR_get _ _ _ q
    obtain ⟨x, h1, h2⟩ := e.get j v q1
    exact ⟨x, h1, Rep.congr0 (fun a h => hideD_own hd s a h) v (Rep.trunc (Nat.le_refl _) v (.inr q2) h2)⟩⟩
  unfold backE
  split
  · rename_i he
    refine ⟨by rw [List.length_set]; exact base.len, fun j v q => ?_⟩
    by_cases hj : i = j
    · subst hj
      have hl : i < env'.length := (List.getElem?_eq_some_iff.mp he).1
      rw [List.getElem?_set_self (by rw [wipeR_len]; exact hl)] at q
      cases q
      obtain ⟨x, h1, h2⟩ := e.get i _ he
      refine ⟨x, h1, ?_⟩
      unfold Rep at h2 ⊢
      refine ⟨hd, ?_⟩
      rw [h2.2, s.agree 0 Nat.zero_lt_one, hideD_at hd]
    · rw [List.getElem?_set_ne hj] at q
      exact base.get j v q
  · exact base
theorem hide_post {i : Nat} {b : MS} (r : SRh Γ ρ F hp H) (e : SRe Γ ρ hp.N H σ env) (p : PostS Γ F W ρ hp.N H (sHide i b env hp) D) : rdS Γ W b D σ H := by
  unfold sHide at p
  split at p
  · rename_i d hi
    split at p
    · rename_i o hd
      split at p
      · rename_i hl
        have hN : d < hp.N := (List.getElem?_eq_some_iff.mp hd).1
        refine ⟨Bl.hideD ρ hp.N d, [], ⟨0, [o]⟩, (wipeR env).set i (some (.ref 0)), r.hideD hd hl, hide_env hN hi e, ?_⟩
        revert p
        generalize b ((wipeR env).set i (some (.ref 0))) ⟨0, [o]⟩ = z
        intro p
        cases z with
        | stuck => exact p
        | ok f hp' =>
          obtain ⟨fl, os⟩ := hp'
          cases os with
          | nil => exact p.elim
          | cons o' rest =>
            by_cases lo : limO 0 o' = true
            · cases f with
              | nx e' =>
                have p' : PostS Γ F W ρ hp.N H (.ok (.nx (backE i d e')) (hp.set d o')) D := by simpa only [lo, if_true] using p
                intro ρ' H' σ' s r' q
                refine p' ρ H' σ' ?_ (hideD_srh r hd s r' lo) ?_
                · rw [Hc.set_N]; exact hideD_step hN s r'.inj
                · rw [Hc.set_N]; exact back_env hN s q
              | bk e' =>
                have p' : PostS Γ F W ρ hp.N H (.ok (.bk (backE i d e')) (hp.set d o')) D := by simpa only [lo, if_true] using p
                intro ρ' H' σ' s r' q
                refine p' ρ H' σ' ?_ (hideD_srh r hd s r' lo) ?_
                · rw [Hc.set_N]; exact hideD_step hN s r'.inj
                · rw [Hc.set_N]; exact back_env hN s q
              | ct e' =>
                have p' : PostS Γ F W ρ hp.N H (.ok (.ct (backE i d e')) (hp.set d o')) D := by simpa only [lo, if_true] using p
                intro ρ' H' σ' s r' q
                refine p' ρ H' σ' ?_ (hideD_srh r hd s r' lo) ?_
                · rw [Hc.set_N]; exact hideD_step hN s r'.inj
                · rw [Hc.set_N]; exact back_env hN s q
              | ex c fs e' =>
                have p' : PostS Γ F W ρ hp.N H (.ok (.ex c fs (backE i d e')) (hp.set d o')) D := by simpa only [lo, if_true] using p
                intro ρ' H' σ' dd s r' q1 q
                refine p' ρ H' σ' dd ?_ (hideD_srh r hd s r' lo) ?_ ?_
                · rw [Hc.set_N]; exact hideD_step hN s r'.inj
                · rw [Hc.set_N]; exact excR_congr (fun a h => hideD_own hN s a h) q1
                · rw [Hc.set_N]; exact back_env hN s q
              | rt v =>
                by_cases lv : limV 0 v = true
                · have p' : PostS Γ F W ρ hp.N H (.ok (.rt v) (hp.set d o')) D := by simpa only [lo, lv, if_true] using p
                  intro ρ' H' x s r' q
                  refine p' ρ H' x ?_ (hideD_srh r hd s r' lo) ?_
                  · rw [Hc.set_N]; exact hideD_step hN s r'.inj
                  · rw [Hc.set_N]
                    exact Rep.congr0 (fun a h => hideD_own hN s a h) v (Rep.trunc (Nat.le_refl _) v (.inr lv) q)
                · have p' : PostS Γ F W ρ hp.N H .stuck D := by simpa [lo, lv] using p
                  exact p'.elim
            · have p' : PostS Γ F W ρ hp.N H .stuck D := by simpa [lo] using p
              exact p'.elim
      · exact p.elim
    · exact p.elim
  · exact p.elim
theorem sim_hide {st : List Stmt} {i : Nat} {b : MS} (h : SimSs X Γ W st b) : SimSs X Γ W st (sHide i b) := pss_imp h fun D σ H q => by
  obtain ⟨ρ, F, hp, env, r, e, p⟩ := q
  exact hide_post r e p
end
end Bl

/-! Own layer, part Zh: making over a clean heap of its own: the object frozen at once. -/
namespace Bl
open PySem PySem.Spec PyProof.Rows L2
section
variable {X : Cx} {Γ : Gx} {W : WX} {k : Nat} {F : List Nat} {ρ ρ' : Rh} {N N' : Nat} {H H' : Hp} {σ : L2.St} {env : En} {hp : Hc} {D : Ends} {pos : Pos}
def mkZ (c : Nat) (f : Fn) (as : List CV) (hp : Hc) : R CV := if limL 0 as = true then (match f (.ref 0 :: as) ⟨0, [.ins c []]⟩ with
  | .ok .non ⟨_, .ins c' fs :: _⟩ => if (Nat.beq c' c && limF 0 fs) = true then .ok (.ins c fs) hp else .stuck
  | .exc d fs _ => .exc d fs hp
  | _ => .stuck) else .stuck
def eMakeZ (c : Nat) (f : Fn) (ms : List (M CV)) : M CV := fun env hp => (evA ms env hp).bind (mkZ c f)
theorem make_postZ {c n : Nat} {f : Fn} {as : List CV} {vs : List V} {Q : VK} {x dx : Addr} (hn : vs.length + 1 = n) (r : SRh Γ ρ F hp H) (e : Reps Γ ρ hp.N H hp.N as vs) (p : Post Γ F W σ ρ hp.N H (reV Γ) (mkZ c f as hp) Q) (hx : H x = none) (hd : H dx = none) (ne : dx ≠ x) :
    spF Γ n f (.ref x :: vs) (upd (upd H dx (.own x)) x (.ins (Γ.cl c) dx [])) (fun v H2 => v = .non ∧ Q (.ref x) H2) (WE W σ) := by
  have s1 : Step ρ hp.N H ρ hp.N (upd H dx (.own x)) := step_new hd
  have r1 : SRh Γ ρ F hp (upd H dx (.own x)) := r.new hd
  have hx1 : upd H dx (.own x) x = none := by rw [upd_ne (Ne.symm ne)]; exact hx
  have rh : SRh Γ (hide ρ hp.N) [] ⟨0, []⟩ (upd H dx (.own x)) := r1.hide
  have s2 : Step (hide ρ hp.N) 0 (upd H dx (.own x)) (ext (hide ρ hp.N) 0 x) 1 (upd (upd H dx (.own x)) x (.ins (Γ.cl c) dx [])) := step_alloc hx1
  have r2 : SRh Γ (ext (hide ρ hp.N) 0 x) [] ⟨0, [.ins c []]⟩ (upd (upd H dx (.own x)) x (.ins (Γ.cl c) dx [])) := rh.alloc (c := .ins c []) hx1 ⟨dx, [], upd_same, by unfold RepF; rfl⟩
  unfold mkZ at p
  split at p
  · rename_i ha
    have e0 : Reps Γ ρ hp.N (upd H dx (.own x)) 0 as vs := Reps.trunc (Nat.le_refl _) as (.inr ha) (e.mono s1 (Nat.le_refl _) (Nat.le_refl _))
    have e1 : Reps Γ (hide ρ hp.N) 0 (upd H dx (.own x)) 0 as vs := Reps.congr0 (ρ := ρ) (N := hp.N) (ρ' := hide ρ hp.N) (N' := 0) (fun a o => o) as e0
    have e2 : Reps Γ (ext (hide ρ hp.N) 0 x) 1 (upd (upd H dx (.own x)) x (.ins (Γ.cl c) dx [])) 1 (.ref 0 :: as) (.ref x :: vs) := by
      unfold Reps
      refine ⟨_, vs, rfl, rep_ref, e1.mono s2 (Nat.le_refl _) (Nat.zero_le _)⟩
    refine ⟨by rw [List.length_cons]; exact hn, ext (hide ρ hp.N) 0 x, [], ⟨0, [.ins c []]⟩, _, r2, e2, ?_⟩
    revert p
    generalize f (.ref 0 :: as) ⟨0, [.ins c []]⟩ = z
    intro p
    have back : ∀ {ρ' : Rh} {hp' : Hc} {H' : Hp}, Step (ext (hide ρ hp.N) 0 x) 1 (upd (upd H dx (.own x)) x (.ins (Γ.cl c) dx [])) ρ' hp'.N H' → SRh Γ ρ' [] hp' H' → Step ρ hp.N H ρ hp.N H' ∧ SRh Γ ρ F hp H' := fun s r' =>
      ⟨s1.trans (loc_step (s2.trans s) r'.inj), loc_srh r1 (s2.trans s) r'.inj r'.tab⟩
    cases z with
    | stuck => exact p
    | exc d fs hp' =>
      have p' : Post Γ F W σ ρ hp.N H (reV Γ) (.exc d fs hp) Q := p
      intro ρ' H' dd s r' q
      obtain ⟨b1, b2⟩ := back s r'
      exact p' ρ H' dd b1 b2 (excR_congr (fun a o => loc_own (s2.trans s) a o) q)
    | ok v hp' =>
      cases v with
      | non =>
        obtain ⟨fl, os⟩ := hp'
        cases os with
        | nil => exact p.elim
        | cons o rest =>
          cases o with
          | ins c' fs =>
            have p' : Post Γ F W σ ρ hp.N H (reV Γ) (if (Nat.beq c' c && limF 0 fs) = true then .ok (.ins c fs) hp else .stuck) Q := p
            split at p'
            · rename_i hc
              rw [Bool.and_eq_true] at hc
              have ec : c' = c := Nat.eq_of_beq_eq_true hc.1
              subst ec
              intro ρ' H' y s r' q
              obtain ⟨b1, b2⟩ := back s r'
              have q' : Rep Γ ρ' (Hc.N ⟨fl, .ins c' fs :: rest⟩) H' (Hc.N ⟨fl, .ins c' fs :: rest⟩) .non y := q
              unfold Rep at q'
              refine ⟨q', p' ρ H' (.ref x) b1 b2 ?_⟩
              obtain ⟨dx', ds, h1, h2⟩ := r'.obj 0 _ rfl
              have ea : ρ' 0 = x := by rw [s.agree 0 Nat.zero_lt_one]; exact ext_at
              rw [ea] at h1
              show Rep Γ ρ hp.N H' hp.N (.ins c' fs) (.ref x)
              unfold Rep
              exact ⟨x, dx', ds, rfl, ⟨r.fresh hx, h1⟩, RepF.congr0 (fun a o => loc_own (s2.trans s) a o) fs (RepF.trunc (Nat.le_refl _) fs (.inr hc.2) h2)⟩
            · exact p'.elim
          | _ => exact p.elim
      | _ => exact p.elim
  · exact p.elim
theorem sim_makeZ [S : Sx X Γ W k] {kf n c : Nat} {x : Str} {p : Pos} {e : Expr} {es : List Expr} {f : Fn} {ms : List (M CV)} (h : KnC X.prog X.w X.K X.mg X.base Γ kf x c n f) (le : kf + 1 ≤ k) (ha : SimA X Γ W (e :: es) (evA ms)) (hn : ms.length + 1 = n := by rfl) (hg : Gl X x := by rfl)
    (hdb : (x == ("__debug__" : Str)) = false := by decide) (he : starEach (e :: es) X.env = (false, eval e X.env) :: starEach es X.env := by rfl) (hpl : (backTo pos (starEach es X.env)).any (·.1) = false := by rfl) :
    SimE X Γ W (.Call (.Name x p) (e :: es) [] pos) (eMakeZ c f ms) := by
  obtain ⟨g, fd, ps, h1, h2, h3, h4⟩ := h
  refine pe_imp (pe_makeW h2 h1 le hg h3 h4 ha hdb he hpl) fun σ H Q z => ?_
  obtain ⟨ρ, F, hp, env, r0, e0, p⟩ := z
  refine ⟨ρ, F, hp, env, r0, e0, ?_⟩
  unfold eMakeZ at p
  cases z : evA ms env hp with
  | stuck => rw [z] at p; exact p
  | exc c fs hp' => rw [z] at p; exact p
  | ok vs hp' =>
    have hl := evA_len z
    rw [z] at p
    intro ρ' H' xs s r e y dy hy hd ne
    exact make_postZ (by rw [← Reps.len e, hl, hn]) r e (Post.step s (show Post Γ F W σ ρ hp.N H (reV Γ) (mkZ c f vs hp') Q from p)) hy hd ne
theorem sim_makeZ0 [S : Sx X Γ W k] {kf c : Nat} {x : Str} {p : Pos} {f : Fn} (h : KnC X.prog X.w X.K X.mg X.base Γ kf x c 1 f) (le : kf + 1 ≤ k) (hg : Gl X x := by rfl)
    (hdb : (x == ("__debug__" : Str)) = false := by decide) : SimE X Γ W (.Call (.Name x p) [] [] pos) (eMakeZ c f []) := by
  obtain ⟨g, fd, ps, h1, h2, h3, h4⟩ := h
  refine pe_imp (pe_makeW0 h2 h1 le hg h3 h4 hdb) fun σ H Q z => ?_
  obtain ⟨ρ, F, hp, env, r0, e0, p⟩ := z
  exact fun y dy hy hd ne => make_postZ (as := []) rfl r0 (by unfold Reps; rfl) p hy hd ne
end
end Bl

/-! Own layer, part Zi: the end's small change. -/
namespace Bl
open PySem PySem.Spec PyProof.Rows L2 LamX
theorem end_map {K : PySem.W.Frag} {tf : List He.Defn} {Q : Addr × Addr → Prop} (h : ∀ p ∈ tf, Q (He.cT K p)) : ∀ p ∈ tf.map (He.cT K), Q p := fun p hp => by
  obtain ⟨q, hq, rfl⟩ := List.mem_map.mp hp
  exact h q hq
theorem end_T {K : PySem.W.Frag} {tf : List He.Defn} {tn : List (He.Defn × Str)} (e : tf = tn.map Prod.fst) : ∀ q ∈ tn.map (fun q => ((He.cT K q.1).2, q.2)), ∃ p ∈ tf.map (He.cT K), q.1 = p.2 := fun q hq => by
  obtain ⟨z, hz, rfl⟩ := List.mem_map.mp hq
  exact ⟨He.cT K z.1, List.mem_map.mpr ⟨z.1, by rw [e]; exact List.mem_map.mpr ⟨z, hz, rfl⟩, rfl⟩, rfl⟩
theorem nodup_inj {α β : Type} {f : α → β} : ∀ {xs : List α}, (xs.map f).Nodup → ∀ a ∈ xs, ∀ b ∈ xs, f a = f b → a = b
  | [], _, a, ha, _, _, _ => by cases ha
  | x :: xs, nd, a, ha, b, hb, e => by
    rw [List.map_cons, List.nodup_cons] at nd
    rcases List.mem_cons.mp ha with rfl | ha'
    · rcases List.mem_cons.mp hb with rfl | hb'
      · rfl
      · exact absurd (List.mem_map.mpr ⟨b, hb', e.symm⟩) nd.1
    · rcases List.mem_cons.mp hb with rfl | hb'
      · exact absurd (List.mem_map.mpr ⟨a, ha', e⟩) nd.1
      · exact nodup_inj nd.2 a ha' b hb' e
theorem gxd_all {K : PySem.W.Frag} {mg : Str → Option Value} {base : Heap} {Γ : Gx} {tf : List He.Defn} {tn : List (He.Defn × Str)} (e : tf = tn.map Prod.fst) (hT : Γ.T = tn.map fun q => ((He.cT K q.1).2, q.2)) (nd : (tf.map fun p => (He.cT K p).2).Nodup) (tb : ∀ p ∈ tf.map (He.cT K), TabB base mg p.1 p.2) :
    ∀ q ∈ tn, GxD K mg base Γ q.1 q.2 := fun q hq => by
  have nd' : (tn.map fun q => (He.cT K q.1).2).Nodup := by
    rw [e, List.map_map] at nd; exact nd
  refine ⟨tb _ (List.mem_map.mpr ⟨q.1, by rw [e]; exact List.mem_map.mpr ⟨q, hq, rfl⟩, rfl⟩), by rw [hT]; exact List.mem_map.mpr ⟨q, hq, rfl⟩, fun p hp h => ?_⟩
  rw [hT] at hp
  obtain ⟨z, hz, rfl⟩ := List.mem_map.mp hp
  have ez := nodup_inj nd' z hz q hq h
  rw [ez]
end Bl

/-! Own layer, part Zj: written dicts with int keys; list.extend; sum of ints; sep.join(texts). -/
namespace Bl
open PySem PySem.Spec PyProof.Rows L2
abbrev ITab := List (Int × CV)
def lookZ (z : Int) : ITab → Option CV
  | [] => none
  | (k, v) :: r => if k = z then some v else lookZ z r
def EntryI (Γ : Gx) (p : Int × CV) (e : DictEntry) : Prop := (∃ t, e.key = .int p.1 t ∧ e.hash = hashInt p.1) ∧ ∃ v, L2.RelV v e.val ∧ ∀ ρ N H m, Rep Γ ρ N H m p.2 v
/-- the dict at a of the module has these int keys -/
def IsI (K : PySem.W.Frag) (Γ : Gx) (a : Addr) (tab : ITab) : Prop := (∃ es n, K.lookup a = some ⟨.type "dict", none, .dict es n, #[]⟩ ∧ Paired (EntryI Γ) tab es.toList) ∧ (a == sysModules) = false
structure WdI (K : PySem.W.Frag) (Γ : Gx) (itabs : List (Nat × ITab)) : Prop where
  at_ : ∀ p ∈ itabs, IsI K Γ (Γ.wd p.1) p.2
theorem entI_keys {Γ : Gx} : ∀ {tab : ITab} {es : List DictEntry}, Paired (EntryI Γ) tab es → ∀ e ∈ es, ∃ k t, e.key = .int k t ∧ e.hash = hashInt k
  | [], _, .nil, _, h => by cases h
  | _ :: _, _ :: _, .cons h t, e, m => by
    cases m with
    | head => obtain ⟨⟨tk, ek⟩, _⟩ := h; exact ⟨_, tk, ek⟩
    | tail _ m => exact entI_keys t e m
theorem entI_look {Γ : Gx} {z : Int} : ∀ {tab : ITab} {es : List DictEntry}, Paired (EntryI Γ) tab es → match lookZ z tab with
    | some cv => ∃ e v, es.find? (fun e => Value.isInt z e.key) = some e ∧ L2.RelV v e.val ∧ ∀ ρ N H m, Rep Γ ρ N H m cv v
    | none => es.find? (fun e => Value.isInt z e.key) = none
  | [], _, .nil => rfl
  | (q, cv) :: tab, e :: es, .cons h t => by
    obtain ⟨⟨tk, ek, eh⟩, v, hv, hr⟩ := h
    have i1 := entI_look (z := z) t
    unfold lookZ
    rw [List.find?_cons]
    by_cases hq : q = z
    · subst hq
      rw [if_pos rfl]
      have : Value.isInt q e.key = true := by rw [ek]; simp [Value.isInt]
      rw [this]
      exact ⟨e, v, rfl, hv, hr⟩
    · rw [if_neg hq]
      have : Value.isInt z e.key = false := by
        rw [ek]
        simp [Value.isInt, hq]
      rw [this]
      exact i1
/-- what the dict at a of the module says of z -/
def IntAt (K : PySem.W.Frag) (a : Addr) (z : Int) (r : Option V) : Prop := (a == sysModules) = false ∧ ∃ es n, K.lookup a = some ⟨.type "dict", none, .dict es n, #[]⟩ ∧ (∀ e ∈ es.toList, ∃ k t, e.key = .int k t ∧ e.hash = hashInt k) ∧ match r with
  | some v => ∃ u, findBy Value.isInt es z = some u ∧ RelV v u
  | none => findBy Value.isInt es z = none
section
variable {X : Cx} {Γ : Gx} {W : WX} {k : Nat} {F : List Nat} {ρ : Rh} {N : Nat} {H : Hp} {σ : L2.St} {env : En} {hp : Hc} {D : Ends} {pos : Pos} {itabs : List (Nat × ITab)}
def IoAt (K : PySem.W.Frag) (Γ : Gx) (a : Addr) (z : Int) : Option CV → Prop
  | some cv => ∃ v, IntAt K a z (some v) ∧ ∀ ρ N H m, Rep Γ ρ N H m cv v
  | none => IntAt K a z none
theorem IsI.look {K : PySem.W.Frag} {a : Addr} {tab : ITab} (I : IsI K Γ a tab) (z : Int) : IoAt K Γ a z (lookZ z tab) := by
  obtain ⟨⟨es, n, hl, pr⟩, low⟩ := I
  have i1 := entI_look (z := z) pr
  have i2 := entI_keys pr
  have e2 : findBy Value.isInt es z = (es.toList.find? fun e => Value.isInt z e.key).map (·.val) := by
    unfold findBy
    rw [← Array.find?_toList]
  cases e : lookZ z tab with
  | some cv =>
    rw [e] at i1
    obtain ⟨en, v, h1, h2, h3⟩ := i1
    exact ⟨v, ⟨low, es, n, hl, i2, en.val, by rw [e2, h1]; rfl, h2⟩, h3⟩
  | none =>
    rw [e] at i1
    have i1' : es.toList.find? (fun e => Value.isInt z e.key) = none := i1
    exact ⟨low, es, n, hl, i2, by rw [e2, i1']; rfl⟩
theorem mapOf_I {K : PySem.W.Frag} {prog : Program} {w : World} {h : Heap} {a : Addr} {es : Array DictEntry} {n : Nat} (X : K.In h) (hl : K.lookup a = some ⟨.type "dict", none, .dict es n, #[]⟩) (hk : ∀ e ∈ es.toList, ∃ k t, e.key = .int k t ∧ e.hash = hashInt k) : h.MapOf (intKind prog w) a (fun k => findBy Value.isInt es k) :=
  ⟨_, es, n, X _ _ hl, ⟨rfl, rfl, rfl⟩, rfl, fun e he => by
    obtain ⟨x, t, e1, e2⟩ := hk e (Array.mem_toList_iff.mpr he)
    exact ⟨x, by rw [e1]; exact intKind_is prog w x t, e2⟩, fun _ => rfl⟩
theorem op_inI : OpR X (compareOp .In) (fun x y H Q => ∃ z a r, x = .int z ∧ y = .ref a ∧ IntAt X.K a z r ∧ Q (.bl r.isSome) H) := by
  intro pins s σ H x y v u Q I rx ry h
  obtain ⟨z, a, r, rfl, rfl, ⟨low, es, n, hl, hk, e⟩, q⟩ := h
  obtain ⟨t, rfl⟩ := rx
  cases ry
  refine wpAny_in_of (intKind_is X.prog X.w z t) low (mapOf_I I.kIn hl hk) ?_
  have es' : (findBy Value.isInt es z).isSome = r.isSome := by
    cases r with
    | some v => obtain ⟨u, e1, _⟩ := e; rw [e1]; rfl
    | none => have e' : findBy Value.isInt es z = none := e; rw [e']; rfl
  rw [es']
  exact ⟨.bl r.isSome, H, I.tok _, rfl, q⟩
theorem op_ninI : OpR X (compareOp .NotIn) (fun x y H Q => ∃ z a r, x = .int z ∧ y = .ref a ∧ IntAt X.K a z r ∧ Q (.bl (!r.isSome)) H) := by
  intro pins s σ H x y v u Q I rx ry h
  obtain ⟨z, a, r, rfl, rfl, ⟨low, es, n, hl, hk, e⟩, q⟩ := h
  obtain ⟨t, rfl⟩ := rx
  cases ry
  refine wpAny_notIn_of (intKind_is X.prog X.w z t) low (mapOf_I I.kIn hl hk) ?_
  have es' : (findBy Value.isInt es z).isSome = r.isSome := by
    cases r with
    | some v => obtain ⟨u, e1, _⟩ := e; rw [e1]; rfl
    | none => have e' : findBy Value.isInt es z = none := e; rw [e']; rfl
  rw [es']
  exact ⟨.bl (!r.isSome), H, I.tok _, rfl, q⟩
theorem ix_int : IxR X (fun x y H Q => ∃ a z v, x = .ref a ∧ y = .int z ∧ IntAt X.K a z (some v) ∧ Q v H) := by
  intro value slice pins s σ H x y v u Q I rx ry h hs
  obtain ⟨a, z, r, rfl, rfl, ⟨low, es, n, hl, hk, u0, e, ru⟩, q⟩ := h
  obtain rfl : v = Value.ref a := rx
  obtain ⟨t, rfl⟩ := ry
  have hm := mapOf_I (prog := X.prog) (w := X.w) I.kIn hl hk
  exact tail_any hm.typeIs PySem.F.slot_dict_getitem.lookup (wpAny_getItem_of (intKind_is X.prog X.w z t) hm e ⟨r, H, I.tok _, ru, q⟩) hs
def assocN (i : Nat) : List (Nat × ITab) → Option ITab
  | [] => none
  | p :: r => if p.1 = i then some p.2 else assocN i r
theorem assocN_ok {i : Nat} {tab : ITab} : ∀ {l : List (Nat × ITab)}, assocN i l = some tab → (i, tab) ∈ l
  | [], h => by cases h
  | p :: r, h => by
    unfold assocN at h
    split at h
    · rename_i e
      cases h
      subst e
      exact List.mem_cons_self
    · exact List.mem_cons_of_mem _ (assocN_ok h)
def lookId (itabs : List (Nat × ITab)) : CV → CV → Option (Option CV)
  | .int z, .wdc i => match assocN i itabs with
    | some tab => some (lookZ z tab)
    | none => none
  | _, _ => none
theorem lookId_ok (T : WdI X.K Γ itabs) {q d : CV} {o : Option CV} {x y : V} {N m : Nat} (hq : Rep Γ ρ N H m q x) (hd : Rep Γ ρ N H m d y) (e : lookId itabs q d = some o) :
    ∃ z a, x = .int z ∧ y = .ref a ∧ IoAt X.K Γ a z o := by
  cases q with
  | int z =>
    cases d with
    | wdc i =>
      have e' : (match assocN i itabs with | some tab => some (lookZ z tab) | none => none) = some o := e
      cases et : assocN i itabs with
      | some tab =>
        rw [et] at e'
        have e2 : lookZ z tab = o := Option.some.inj e'
        have l : IoAt X.K Γ (Γ.wd i) z (lookZ z tab) := (T.at_ _ (assocN_ok et)).look z
        rw [e2] at l
        unfold Rep at hq hd
        subst hq hd
        exact ⟨z, _, rfl, rfl, l⟩
      | none => rw [et] at e'; cases e'
    | _ => cases e
  | _ => cases e
def vIIn (itabs : List (Nat × ITab)) (neg : Bool) (q d : CV) (hp : Hc) : R CV := match lookId itabs q d with
  | some o => .ok (.bl (if neg = true then !o.isSome else o.isSome)) hp
  | none => .stuck
theorem oc_iin (T : WdI X.K Γ itabs) : OpC X Γ W (compareOp .In) (vIIn itabs false) := by
  refine ⟨_, op_inI, fun σ ρ F hp H a b x y Q r ra rb p => ?_⟩
  unfold vIIn at p
  split at p
  · rename_i o ev
    obtain ⟨z, a, rfl, rfl, l⟩ := lookId_ok T ra rb ev
    cases o with
    | some cv =>
      obtain ⟨v, h1, _⟩ := l
      exact ⟨_, _, _, rfl, rfl, h1, p.ok r repB⟩
    | none => exact ⟨_, _, none, rfl, rfl, l, p.ok r repB⟩
  · exact p.elim
theorem oc_inin (T : WdI X.K Γ itabs) : OpC X Γ W (compareOp .NotIn) (vIIn itabs true) := by
  refine ⟨_, op_ninI, fun σ ρ F hp H a b x y Q r ra rb p => ?_⟩
  unfold vIIn at p
  split at p
  · rename_i o ev
    obtain ⟨z, a, rfl, rfl, l⟩ := lookId_ok T ra rb ev
    cases o with
    | some cv =>
      obtain ⟨v, h1, _⟩ := l
      exact ⟨_, _, _, rfl, rfl, h1, p.ok r repB⟩
    | none => exact ⟨_, _, none, rfl, rfl, l, p.ok r repB⟩
  · exact p.elim
def vIGet (itabs : List (Nat × ITab)) (d q : CV) (hp : Hc) : R CV := match lookId itabs q d with
  | some (some v) => .ok v hp
  | _ => .stuck
theorem sim_ixI [S : Sx X Γ W k] {a b : Expr} {ma mb : M CV} (T : WdI X.K Γ itabs) (ha : SimE X Γ W a ma) (hb : SimE X Γ W b mb) (hs : PlainIx b := by exact fun _ _ => rfl) : SimE X Γ W (.Subscript a b pos) (e2 (vIGet itabs) ma mb) :=
  pe_imp (pe_ix ix_int ha hb hs) fun _ _ _ h => e2_op (fun σ ρ F hp H a b x y Q r ra rb p => by
    unfold vIGet at p
    split at p
    · rename_i v ev
      obtain ⟨z, a, rfl, rfl, v, h1, h2⟩ := lookId_ok T rb ra ev
      exact ⟨_, _, v, rfl, rfl, h1, p.ok r (h2 _ _ _ _)⟩
    · exact p.elim) h
/-! ### sum -/
def sumI : List CV → Option Int
  | [] => some 0
  | .int i :: r => (sumI r).map (i + ·)
  | _ => none
theorem sumI_ok : ∀ {xs : List CV} {z : Int} {vs : List V} {m : Nat}, Reps Γ ρ N H m xs vs → sumI xs = some z → ∃ ns : List Int, vs = ns.map V.int ∧ ns.sum = z
  | [], z, vs, m, h, e => by
    unfold Reps at h
    subst h
    cases e
    exact ⟨[], rfl, rfl⟩
  | x :: xs, z, vs, m, h, e => by
    unfold Reps at h
    obtain ⟨v, r, rfl, hx, hr⟩ := h
    cases x with
    | int i =>
      have e' : (sumI xs).map (i + ·) = some z := e
      cases e2 : sumI xs with
      | none => rw [e2] at e'; cases e'
      | some y =>
        rw [e2] at e'
        cases e'
        obtain ⟨ns, rfl, es⟩ := sumI_ok hr e2
        unfold Rep at hx
        subst hx
        exact ⟨i :: ns, rfl, by rw [List.sum_cons, es]⟩
    | _ => cases e
theorem cr_sumT (hc : X.calm = true) : CallR X (.builtin "sum") (fun vs H Q => ∃ (a : Addr) (ns : List Int), vs = [V.ref a] ∧ SqT X.K H a (ns.map V.int) ∧ Q (.int ns.sum) H) := by
  intro pins s σ H vs us Q I r h
  obtain ⟨a, ns, rfl, hs, q⟩ := h
  obtain ⟨its, rv, ⟨o, ho, hcl, n, hd⟩, _⟩ := I.tuple hs
  rw [Vals.ref1 r]
  have hi := rv.ints
  obtain ⟨xs, hx⟩ := hi.allInts.items
  have hn : numsOf its.toArray.toList = ns := by rw [show its.toArray.toList = its from rfl, hi.numsOf]
  have hl : s.heap.IsTuple a its.toArray := ⟨o, ho, hcl, n, hd⟩
  rw [hx] at hl hn
  rw [nums_intItems] at hn
  refine PySem.W.ktm_sumG (I.ok.hd hc) hl fun h' tk t' hk => ⟨.int ns.sum, H, I.kept hk, ⟨t', ?_⟩, q⟩
  rw [preSum_eq, List.take_of_length_le (by simp), hn]
def bSum : List CV → Hc → R CV
  | [x], hp => match seqItems hp x with
    | some xs => (match sumI xs with
      | some z => .ok (.int z) hp
      | none => .stuck)
    | none => .stuck
  | _, _ => .stuck
theorem bc_sum [S : Sx X Γ W k] : CallC X Γ W (.builtin "sum") bSum := ⟨fun vs H Q => (∃ (a : Addr) (ns : List Int), vs = [V.ref a] ∧ SqL X.K H a (ns.map V.int) ∧ Q (.int ns.sum) H) ∨ ∃ (a : Addr) (ns : List Int), vs = [V.ref a] ∧ SqT X.K H a (ns.map V.int) ∧ Q (.int ns.sum) H,
  fun pins s σ H xs us Q I rr h => h.elim (cr_sum S.calm pins s σ H xs us Q I rr) (cr_sumT S.calm pins s σ H xs us Q I rr), fun σ ρ F hp H as xs Q r h p => by
  unfold bSum at p
  split at p
  · split at p
    · rename_i ys e1
      split at p
      · rename_i z e2
        obtain ⟨v, rfl, h1⟩ := h.one
        obtain ⟨a, vs, rfl, h2, h3⟩ := seqItems_ok r e1 h1
        obtain ⟨ns, rfl, es⟩ := sumI_ok h3 e2
        have q := p.ok r (repI (i := z))
        rw [← es] at q
        exact h2.elim (fun h2 => .inl ⟨a, ns, rfl, S.K ▸ h2, q⟩) fun h2 => .inr ⟨a, ns, rfl, S.K ▸ h2, q⟩
      · exact p.elim
    · exact p.elim
  · exact p.elim⟩
/-! ### extend -/
theorem list_extendW (l : Addr) (items : Array Value) (n : Nat) (b : Addr) (items2 : Array Value) (n2 : Nat) (dd2 : Option Addr) (sl2 : Array (Option Value)) (hc0 : ¬(!items.isEmpty && Builtin.List.listTooLong (items.size + items2.size)) = true) (hc1 : items.size ≤ sizeLine) (hs2 : items.size + items2.size ≤ sizeLine + 1) :
    Meets (Builtin.«list.extend» ⟨[.ref l, .ref b], []⟩) (fun _ R s => s.heap.get? l = some { cls := .type "list", dict := none, data := .seq items n, slots := #[] } ∧ s.heap.get? b = some { cls := .type "list", dict := dd2, data := .seq items2 n2, slots := sl2 } ∧ R (.ok (.ret Value.none)) { s with heap := s.heap.update l (Obj.mapSeq fun x => x ++ items2), toks := s.toks }) :=
  .of_wp fun prog w A R s h => by
    obtain ⟨hp, g, d, tk, os⟩ := s; obtain ⟨hl, hb, h⟩ := h; have f1 := AutoSeq1.idx_int; have f2 := AutoSeq1.sub_tuple_tuple; have f3 := AutoSeq1.sub_list_list; have f4 := AutoSeq1.sub_tuple_list; have f5 := AutoSeq1.sub_list_tuple;
    have hz' : (items ++ items2).size ≤ sizeLine + 1 := by rw [Array.size_append]; exact hs2
    wp_walk using (wpAny_updateSeq hl rfl (hz := hc1) (_hz' := hz')), AutoSeq1.wpAny_loadPart' hl, AutoSeq1.wpAny_loadPart' hb; exact ⟨_, rfl, h⟩
theorem mtr_extendQ : MtR X "list.extend" (fun x vs H Q => ∃ l b xs zs, x = .ref l ∧ vs = [.ref b] ∧ H l = some (.lst xs) ∧ SqL X.K H b zs ∧ xs.length + zs.length ≤ sizeLine ∧ Q .non (upd H l (.lst (xs ++ zs)))) := by
  intro pins s σ H x vs v us Q I rx rv h
  obtain ⟨l, b, xs, zs, rfl, rfl, hH, hB, hz, q⟩ := h
  cases rx
  obtain ⟨u, rfl, ru⟩ := rv.one
  cases ru
  obtain ⟨z, its, n, r, hl, e⟩ := I.lstM hH
  obtain ⟨its2, r2, pl2, hl2⟩ := I.list hB
  obtain ⟨⟨cls2, dd2, data2, sl2⟩, n2, ho2, hc2, hx2, hd2⟩ := pl2
  simp only at hc2 hd2 hx2
  subst hc2 hd2
  have hlen1 := r.length
  have hlen2 := r2.length
  have hsz : its.toArray.size + its2.toArray.size ≤ sizeLine := by rw [List.size_toArray, List.size_toArray]; omega
  have hlong : ¬ (!its.toArray.isEmpty && Builtin.List.listTooLong (its.toArray.size + its2.toArray.size)) = true := by
    rw [notLongL hsz, Bool.and_false]
    exact Bool.false_ne_true
  refine call_meets PySem.F.slot_list_extend ⟨_, e, rfl⟩ PySem.F.entry_list_extend (PySem.F.args_list_extend_2 _ _) (list_extendW l its.toArray n b its2.toArray n2 dd2 sl2 hlong (by rw [List.size_toArray]; omega) (by omega)) ⟨e, ho2, ?_⟩
  refine ⟨.non, _, I.lset (its' := its ++ its2) hH e (by simp) (r.append r2) ?_, rfl, q⟩
  rw [List.length_append]
  omega
def extC (n : Nat) (ys : List CV) (hp : Hc) : Option Hc := match hp.os[n]? with
  | some (.lst xs) => if (decide (n < hp.fl) && !limL (n + 1) (xs ++ ys)) = true then none else if decide (xs.length + ys.length ≤ 16777216) = true then some (hp.set n (.lst (xs ++ ys))) else none
  | _ => none
def eExtend (mo ma : M CV) : M CV := fun env hp => (mo env hp).bind fun o hp => match o with
  | .ref n => if isL hp n = true then (ma env hp).bind fun x hp => (match x with
    | .lst ys => (match extC n ys hp with
      | some hp' => .ok .non hp'
      | none => .stuck)
    | _ => .stuck) else .stuck
  | _ => .stuck
theorem extC_ok {n : Nat} {ys : List CV} {ws : List V} {hp' : Hc} (hn : n < hp.N) (r : SRh Γ ρ F hp H) (hx : Reps Γ ρ hp.N H hp.N ys ws) (e : extC n ys hp = some hp') :
    ∃ vs, H (ρ n) = some (.lst vs) ∧ vs.length + ws.length ≤ sizeLine ∧ hp'.N = hp.N ∧ Step ρ hp.N H ρ hp'.N (upd H (ρ n) (.lst (vs ++ ws))) ∧ SRh Γ ρ F hp' (upd H (ρ n) (.lst (vs ++ ws))) := by
  unfold extC at e
  split at e
  · rename_i xs he
    split at e
    · cases e
    · rename_i hc
      split at e
      · rename_i hl
        cases e
        obtain ⟨vs, a1, a2⟩ := r.obj _ _ he
        have st : Step ρ hp.N H ρ hp.N (upd H (ρ n) (.lst (vs ++ ws))) := step_write hn
        refine ⟨vs, a1, by rw [← a2.len, ← hx.len, sizeLine_eq]; exact of_decide_eq_true hl, Hc.set_N _ _ _, by rw [Hc.set_N]; exact st, ?_⟩
        refine r.write (c := .lst (xs ++ ys)) hn (fun hl => ?_) (fun f hf z => limO_mono hf (.lst (xs ++ ys)) z) ⟨_, upd_same, (a2.app hx).mono st (Nat.le_refl _) (Nat.le_refl _)⟩
        by_cases hz : limL (n + 1) (xs ++ ys) = true
        · exact hz
        · exact absurd (by rw [decide_eq_true hl, Bool.not_eq_true] at *; simp [hz]) hc
      · cases e
  · cases e
theorem sim_extend [S : Sx X Γ W k] {o a : Expr} {mo ma : M CV} {apos cpos : Pos} (ho : SimE X Γ W o mo) (ha : SimE X Γ W a ma)
    (hbase : attributeBase o "extend" X.env (eval o X.env) = eval o X.env := by rfl)
    (hfew : ((backTo cpos (starEach [a] X.env)).all (fun x => !x.1) && (backToKw cpos (keywordEach [] X.env)).all (fun x => x.1.isSome)
      && decide ([a].length + ([] : List Keyword).length + (if ([] : List Keyword).isEmpty then 0 else 1) < 30)) = true := by rfl)
    (hline : (apos.endLine == cpos.line) = true := by rfl) (hs : starEach [a] X.env = (false, eval a X.env) :: starEach [] X.env := by rfl) :
    SimE X Γ W (.Call (.Attribute o "extend" apos) [a] [] cpos) (eExtend mo ma) :=
  pe_imp (pe_bm PySem.F.plainAttrs_list PySem.F.slot_list_extend PySem.F.type_list_extend mtr_extendQ ho (pa_cons ha pa_nil hs) hbase hfew hline hs (by rfl)) fun σ H Q z => by
    obtain ⟨ρ, F, hp, env, r0, e0, p⟩ := z
    refine rd_mono (rd_next (re := reV Γ) r0 e0 p) fun x H1 ⟨ρ1, hp1, co, s1, r1, e1, h1, p1⟩ => ?_
    cases co with
    | ref n =>
      have h1' : Rep Γ ρ1 hp1.N H1 hp1.N (.ref n) x := h1
      unfold Rep at h1'
      obtain ⟨hn, rfl⟩ := h1'
      have p1' : Post Γ F W σ ρ1 hp1.N H1 (reV Γ) (if isL hp1 n = true then (ma env hp1).bind fun x hp => (match x with | .lst ys => (match extC n ys hp with | some hp' => .ok .non hp' | none => .stuck) | _ => .stuck) else .stuck) Q := p1
      split at p1'
      · rename_i hi
        obtain ⟨_, ws, hw⟩ := isL_ok r1 hi
        refine ⟨.inl ⟨rfl, ws, .inl (.inl hw)⟩, rd_mono (rd_next (re := reV Γ) r1 e1 p1') fun v H2 ⟨ρ2, hp2, cx, s2, r2, e2, h2, p2⟩ => ?_⟩
        split at p2
        · rename_i ys
          split at p2
          · rename_i hp3 e3
            have h2' : Rep Γ ρ2 hp2.N H2 hp2.N (.lst ys) v := h2
            obtain ⟨b, us, rfl, q1, q2⟩ := seqItems_list r2 (fun _ z => by cases z) (fun _ z => by cases z) rfl h2'
            obtain ⟨vs, a1, a2, a3, a4, a5⟩ := extC_ok (Nat.lt_of_lt_of_le hn s2.le) r2 q2 e3
            rw [s2.agree n hn] at a1 a4 a5
            exact ⟨_, b, vs, us, rfl, rfl, a1, S.K ▸ q1, a2, p2 ρ2 _ .non a4 a5 repN⟩
          · exact p2.elim
        · exact p2.elim
      · exact p1'.elim
    | _ => exact p1.elim
/-! ### join -/
def strsOf : List CV → Option (List (List Nat))
  | [] => some []
  | .str s :: r => (strsOf r).map (s :: ·)
  | _ => none
theorem strsOf_ok : ∀ {xs : List CV} {zs : List (List Nat)} {vs : List V} {m : Nat}, Reps Γ ρ N H m xs vs → strsOf xs = some zs → vs = (zs.map sOf).map V.str
  | [], z, vs, m, h, e => by
    unfold Reps at h
    subst h
    cases e
    rfl
  | x :: xs, z, vs, m, h, e => by
    unfold Reps at h
    obtain ⟨v, r, rfl, hx, hr⟩ := h
    cases x with
    | str s =>
      have e' : (strsOf xs).map (s :: ·) = some z := e
      cases e2 : strsOf xs with
      | none => rw [e2] at e'; cases e'
      | some y =>
        rw [e2] at e'
        cases e'
        have es := strsOf_ok hr e2
        unfold Rep at hx
        subst hx
        rw [es]
        rfl
    | _ => cases e
def joinN (a : List Nat) : List (List Nat) → List Nat
  | [] => []
  | [x] => x
  | x :: y :: r => x ++ (a ++ joinN a (y :: r))
theorem joinN_eq (a : List Nat) (ys : List (List Nat)) : Txt.join (sOf a) (ys.map sOf) = sOf (joinN a ys) := by
  rw [TL.join_eq]
  induction ys with
  | nil => rfl
  | cons x r ih => cases r with
    | nil => rfl
    | cons y r =>
      show sOf x ++ sOf a ++ Str.join (sOf a) ((y :: r).map sOf) = sOf (x ++ (a ++ joinN a (y :: r)))
      rw [ih, ← sOf_app, ← sOf_app, List.append_assoc]
def eJoin (mo ma : M CV) : M CV := fun env hp => (mo env hp).bind fun o hp => match o with
  | .str a => (ma env hp).bind fun y hp => (match (seqItems hp y).bind strsOf with
    | some zs => if decide ((zs.map (·.length)).sum + zs.length * a.length ≤ 16777216) = true then .ok (.str (joinN a zs)) hp else .stuck
    | none => .stuck)
  | _ => .stuck
theorem sim_join [S : Sx X Γ W k] {o e : Expr} {mo ma : M CV} {apos : Pos} (ho : SimE X Γ W o mo) (he : SimE X Γ W e ma)
    (hs : starEach [e] X.env = [(false, eval e X.env)] := by rfl) (hbase : attributeBase o "join" X.env (eval o X.env) = eval o X.env := by rfl) (hline : (apos.endLine == pos.line) = true := by rfl) :
    SimE X Γ W (.Call (.Attribute o "join" apos) [e] [] pos) (eJoin mo ma) :=
  pe_imp (pe_join ho he hs hbase hline) fun σ H Q z => by
    obtain ⟨ρ, F, hp, env, r0, e0, p⟩ := z
    refine rd_mono (rd_next (re := reV Γ) r0 e0 p) fun x H1 ⟨ρ1, hp1, co, s1, r1, e1, h1, p1⟩ => ?_
    cases co with
    | str a =>
      have h1' : Rep Γ ρ1 hp1.N H1 hp1.N (.str a) x := h1
      unfold Rep at h1'
      subst h1'
      refine ⟨⟨_, rfl⟩, rd_mono (rd_next (re := reV Γ) r1 e1 p1) fun v H2 ⟨ρ2, hp2, cx, s2, r2, e2, h2, p2⟩ => ?_⟩
      split at p2
      · rename_i zs e3
        split at p2
        · rename_i hl
          cases e4 : seqItems hp2 cx with
          | none => rw [e4] at e3; cases e3
          | some ys =>
            rw [e4] at e3
            obtain ⟨p0, vs, rfl, h3, h4⟩ := seqItems_ok r2 e4 h2
            have e5 := strsOf_ok h4 e3
            subst e5
            have hl' := of_decide_eq_true hl
            refine ⟨_, p0, zs.map sOf, rfl, rfl, S.K ▸ h3, ?_, ?_⟩
            · rw [List.map_map, List.length_map, sOf_len]
              have : (zs.map ((fun x : Str => x.length) ∘ sOf)) = zs.map (·.length) := List.map_congr_left fun z _ => sOf_len z
              rw [this]
              exact hl'
            · rw [joinN_eq]
              exact p2.ok r2 repS
        · exact p2.elim
      · exact p2.elim
    | _ => exact p1.elim
end
/-! ### by the head's data -/
def entIB (K : PySem.W.Frag) (p : Int × CV) (e : DictEntry) : Bool := (match e.key with
  | .int x _ => decide (p.1 = x)
  | _ => false) && (decide (e.hash = hashInt p.1) && wB K 8 p.2 e.val)
def widB (K : PySem.W.Frag) (a : Addr) (tab : ITab) : Bool := !(a == sysModules) && match K.lookup a with
  | some ⟨.type c, none, .dict es _, sl⟩ => decide (c = "dict") && (sl.isEmpty && (decide (tab.length = es.toList.length) && (tab.zip es.toList).all fun q => entIB K q.1 q.2))
  | _ => false
theorem entsI_ok {Γ : Gx} {K : PySem.W.Frag} (hK : Γ.K = K) : ∀ {tab : ITab} {es : List DictEntry}, tab.length = es.length → (tab.zip es).all (fun q => entIB K q.1 q.2) = true → Paired (EntryI Γ) tab es
  | [], [], _, _ => .nil
  | [], _ :: _, h, _ => by cases h
  | _ :: _, [], h, _ => by cases h
  | p :: tab, e :: es, hl, h => by
    rw [List.zip_cons_cons, List.all_cons, Bool.and_eq_true] at h
    refine .cons ?_ (entsI_ok hK (by simpa using hl) h.2)
    have h1 : ((match e.key with | .int x _ => decide (p.1 = x) | _ => false) && (decide (e.hash = hashInt p.1) && wB K 8 p.2 e.val)) = true := h.1
    rw [Bool.and_eq_true, Bool.and_eq_true, decide_eq_true_eq] at h1
    obtain ⟨h2, h3, h4⟩ := h1
    refine ⟨?_, _, wB_ok hK 8 p.2 e.val h4⟩
    split at h2
    · rename_i x t ek
      exact ⟨t, by rw [ek, of_decide_eq_true h2], h3⟩
    · cases h2
theorem widB_ok {Γ : Gx} {K : PySem.W.Frag} {a : Addr} {tab : ITab} (hK : Γ.K = K) (h : widB K a tab = true) : IsI K Γ a tab := by
  unfold widB at h
  rw [Bool.and_eq_true, Bool.not_eq_true'] at h
  obtain ⟨low, h⟩ := h
  refine ⟨?_, low⟩
  split at h
  · rename_i c es n sl ek
    rw [Bool.and_eq_true, Bool.and_eq_true, Bool.and_eq_true, decide_eq_true_eq, decide_eq_true_eq] at h
    obtain ⟨h1, h2, h3, h4⟩ := h
    subst h1
    have h5 : sl = #[] := by simpa using h2
    subst h5
    exact ⟨es, n, ek, entsI_ok hK h3 h4⟩
  · cases h
end Bl

/-! Native layer, part A: what a mirror answers, in typed plain Lean; judgements. -/
namespace Bl
open PySem PySem.Spec PyProof.Rows L2

inductive An (α : Type) : Type where
  | ok (a : α) | exc (c : Nat) (fs : List (Nat × CV)) | stuck
def An.bind {α β : Type} (p : An α) (f : α → An β) : An β := match p with
  | .ok a => f a
  | .exc c fs => .exc c fs
  | .stuck => .stuck
/-- no exception leaves a comprehension -/
def An.calm {α : Type} (p : An α) : An α := match p with
  | .ok a => .ok a
  | .exc _ _ => .stuck
  | .stuck => .stuck
abbrev grd {α : Type} (b : Bool) (p : An α) : An α := cond b p .stuck
@[simp] theorem An.ok_bind {α β : Type} (a : α) (f : α → An β) : (An.ok a).bind f = f a := rfl
@[simp] theorem An.exc_bind {α β : Type} (c : Nat) (fs : List (Nat × CV)) (f : α → An β) : (An.exc c fs : An α).bind f = .exc c fs := rfl
@[simp] theorem An.stuck_bind {α β : Type} (f : α → An β) : (An.stuck : An α).bind f = .stuck := rfl
theorem An.bind_assoc {α β γ : Type} (p : An α) (f : α → An β) (g : β → An γ) : (p.bind f).bind g = p.bind fun a => (f a).bind g := by cases p <;> rfl
theorem An.bind_ok {α : Type} (p : An α) : (p.bind fun a => .ok a) = p := by cases p <;> rfl

/-! ### what is known of the slots -/
def LeP : En → En → Prop
  | [], [] => True
  | none :: a, _ :: b => LeP a b
  | some v :: a, w :: b => w = some v ∧ LeP a b
  | [], _ :: _ => False
  | none :: _, [] => False
  | some _ :: _, [] => False
theorem LeP.get : ∀ {sp env : En} {i : Nat} {v : CV}, LeP sp env → sp[i]? = some (some v) → env[i]? = some (some v)
  | [], _, _, _, _, e => by simp at e
  | none :: a, [], i, v, h, e => h.elim
  | some _ :: a, [], i, v, h, e => h.elim
  | none :: a, w :: b, 0, v, h, e => by simp at e
  | none :: a, w :: b, i + 1, v, h, e => by
    rw [List.getElem?_cons_succ] at e ⊢
    exact LeP.get (sp := a) (env := b) h e
  | some u :: a, w :: b, 0, v, h, e => by
    rw [List.getElem?_cons_zero] at e ⊢
    rw [h.1]; exact e
  | some u :: a, w :: b, i + 1, v, h, e => by
    rw [List.getElem?_cons_succ] at e ⊢
    exact LeP.get h.2 e
theorem LeP.len : ∀ {sp env : En}, LeP sp env → sp.length = env.length
  | [], [], _ => rfl
  | [], _ :: _, h => h.elim
  | none :: a, [], h => h.elim
  | some _ :: a, [], h => h.elim
  | none :: a, w :: b, h => congrArg (· + 1) (LeP.len (sp := a) (env := b) h)
  | some u :: a, w :: b, h => congrArg (· + 1) (LeP.len h.2)
theorem LeP.cons {x w : Option CV} {a b : En} (h : LeP a b) (hx : ∀ v, x = some v → w = some v) : LeP (x :: a) (w :: b) := by
  cases x with
  | none => exact h
  | some v => exact ⟨hx v rfl, h⟩
theorem LeP.set : ∀ {sp env : En} (i : Nat) (x : Option CV), LeP sp env → LeP (sp.set i x) (env.set i x)
  | [], [], i, x, h => by simp only [List.set_nil]; exact h
  | [], _ :: _, i, x, h => h.elim
  | none :: a, [], i, x, h => h.elim
  | some _ :: a, [], i, x, h => h.elim
  | none :: a, w :: b, 0, x, h => LeP.cons (a := a) (b := b) h fun _ e => e
  | some u :: a, w :: b, 0, x, h => LeP.cons (a := a) (b := b) h.2 fun _ e => e
  | none :: a, w :: b, i + 1, x, h => LeP.set (sp := a) (env := b) i x h
  | some u :: a, w :: b, i + 1, x, h => ⟨h.1, LeP.set (sp := a) (env := b) i x h.2⟩
theorem LeP.refl : ∀ sp : En, LeP sp sp
  | [] => trivial
  | none :: a => LeP.refl a
  | some _ :: a => ⟨rfl, LeP.refl a⟩
theorem LeP.trans : ∀ {a b c : En}, LeP a b → LeP b c → LeP a c
  | [], [], [], _, _ => trivial
  | [], [], _ :: _, _, h => h.elim
  | [], _ :: _, _, h, _ => h.elim
  | none :: a, [], _, h, _ => h.elim
  | some _ :: a, [], _, h, _ => h.elim
  | none :: a, none :: b, [], _, h => h.elim
  | none :: a, some _ :: b, [], _, h => h.elim
  | some _ :: a, none :: b, [], _, h => h.elim
  | some _ :: a, some _ :: b, [], _, h => h.elim
  | none :: a, none :: b, _ :: c, h, h' => LeP.trans (a := a) (b := b) (c := c) h h'
  | none :: a, some _ :: b, _ :: c, h, h' => LeP.trans (a := a) (b := b) (c := c) h h'.2
  | some u :: a, none :: b, w :: c, h, h' => by cases h.1
  | some u :: a, some v :: b, w :: c, h, h' => by
    cases h.1
    exact ⟨h'.1, LeP.trans h.2 h'.2⟩
theorem LeP.wipe {sp env : En} (h : LeP sp env) : ∀ vs : List Nat, LeP (wipeE sp vs) (wipeE env vs)
  | [] => h
  | v :: vs => (LeP.wipe h vs).set v none

/-! ### expressions -/
def Gi {α β : Type} (p : An α) (rel : α → β → Prop) (hp : Hc) (r : R β) : Prop := match p with
  | .ok a => ∃ v, r = .ok v hp ∧ rel a v
  | .exc c fs => r = .exc c fs hp
  | .stuck => True
abbrev Is {α β : Type} (enc : α → β) : α → β → Prop := fun a v => v = enc a
/-- m answers p, whatever stands above the objects os -/
def Ex {α β : Type} (sp : En) (os : List CO) (m : M β) (rel : α → β → Prop) (p : An α) : Prop := ∀ (env : En) (fl : Nat) (t : List CO), LeP sp env → Gi p rel ⟨fl, os ++ t⟩ (m env ⟨fl, os ++ t⟩)
section
variable {α β γ δ α' β' : Type} {sp : En} {os : List CO} {fl : Nat} {hp : Hc}
theorem Gi.imp {p : An α} {rel rel' : α → β → Prop} {r : R β} (h : Gi p rel hp r) (i : ∀ a v, rel a v → rel' a v) : Gi p rel' hp r := by
  cases p with
  | ok a => obtain ⟨v, e, q⟩ := h; exact ⟨v, e, i a v q⟩
  | exc c fs => exact h
  | stuck => trivial
theorem Gi.bind {p : An α} {rel : α → β → Prop} {r : R β} {q : α → An γ} {rel2 : γ → δ → Prop} {k : β → Hc → R δ} (h : Gi p rel hp r) (hk : ∀ a v, rel a v → Gi (q a) rel2 hp (k v hp)) : Gi (p.bind q) rel2 hp (r.bind k) := by
  cases p with
  | ok a => obtain ⟨v, e, z⟩ := h; subst e; exact hk a v z
  | exc c fs => have e : r = .exc c fs hp := h; subst e; exact rfl
  | stuck => trivial
theorem Gi.ok {a : α} {rel : α → β → Prop} {v : β} (h : rel a v) : Gi (.ok a) rel hp (.ok v hp) := ⟨v, rfl, h⟩
theorem Ex.imp {m : M β} {p : An α} {rel rel' : α → β → Prop} (h : Ex sp os m rel p) (i : ∀ a v, rel a v → rel' a v) : Ex sp os m rel' p := fun env fl t l => (h env fl t l).imp i
theorem Ex.bind {m : M β} {p : An α} {rel : α → β → Prop} {q : α → An γ} {rel2 : γ → δ → Prop} {k : β → M δ} (h : Ex sp os m rel p) (hk : ∀ a v, rel a v → Ex sp os (k v) rel2 (q a)) : Ex sp os (fun env hp => (m env hp).bind fun v hp => k v env hp) rel2 (p.bind q) :=
  fun env fl t l => (h env fl t l).bind fun a v z => hk a v z env fl t l
theorem Ex.weak {m : M β} {p : An α} {rel : α → β → Prop} {sp' : En} (h : Ex sp os m rel p) (l : LeP sp sp') : Ex sp' os m rel p := fun env fl t l' => h env fl t (l.trans l')
theorem n_var {i : Nat} {v : CV} {a : α} {enc : α → CV} (h : sp[i]? = some (some v) := by rfl) (e : v = enc a := by rfl) : Ex sp os (eVar i) (Is enc) (.ok a) := fun env fl t l => by
  have z := l.get h
  unfold eVar
  rw [z]
  exact ⟨v, rfl, e⟩
theorem n_c {v : CV} {a : α} {enc : α → CV} (e : v = enc a := by rfl) : Ex sp os (eC v) (Is enc) (.ok a) := fun env fl t l => ⟨v, rfl, e⟩

/-! ### two operands -/
def Op {α β γ : Type} (os : List CO) (f : CV → CV → Hc → R CV) (ra : α → CV → Prop) (rb : β → CV → Prop) (rc : γ → CV → Prop) (op : α → β → An γ) : Prop :=
  ∀ a b va vb fl t, ra a va → rb b vb → Gi (op a b) rc ⟨fl, os ++ t⟩ (f va vb ⟨fl, os ++ t⟩)
theorem n_e2 {f : CV → CV → Hc → R CV} {ra : α → CV → Prop} {rb : β → CV → Prop} {rc : γ → CV → Prop} {op : α → β → An γ} {ma mb : M CV} {p : An α} {q : An β} (o : Op os f ra rb rc op) (ha : Ex sp os ma ra p) (hb : Ex sp os mb rb q) :
    Ex sp os (e2 f ma mb) rc (p.bind fun x => q.bind fun y => op x y) := fun env fl t l =>
  (ha env fl t l).bind fun a va za => (hb env fl t l).bind fun b vb zb => o a b va vb fl t za zb
abbrev rI : Int → CV → Prop := Is CV.int
abbrev rB : Bool → CV → Prop := Is CV.bl
abbrev rS : List Nat → CV → Prop := Is CV.str
theorem op_I {g : Int → Int → CV} {enc : γ → CV} {op : Int → Int → γ} (h : ∀ i j, g i j = enc (op i j)) : Op os (vI g) rI rI (Is enc) (fun i j => .ok (op i j)) := fun a b va vb fl t ea eb => by
  cases ea; cases eb
  exact ⟨_, rfl, h a b⟩
theorem o_sub : Op os vSub rI rI rI (fun i j => .ok (i - j)) := op_I fun _ _ => rfl
theorem o_lt : Op os vLt rI rI rB (fun i j => .ok (decide (i < j))) := op_I fun _ _ => rfl
theorem o_le : Op os vLe rI rI rB (fun i j => .ok (decide (i ≤ j))) := op_I fun _ _ => rfl
theorem o_gt : Op os vGt rI rI rB (fun i j => .ok (decide (j < i))) := op_I fun _ _ => rfl
theorem o_ge : Op os vGe rI rI rB (fun i j => .ok (decide (j ≤ i))) := op_I fun _ _ => rfl
theorem o_addI : Op os vAdd rI rI rI (fun i j => .ok (i + j)) := fun a b va vb fl t ea eb => by
  cases ea; cases eb
  exact ⟨_, rfl, rfl⟩
theorem op_IC {C : Int → Int → Bool} {g : Int → Int → CV} {enc : γ → CV} {op : Int → Int → γ} (h : ∀ i j, g i j = enc (op i j)) : Op os (vIC C g) rI rI (Is enc) (fun i j => grd (C i j) (.ok (op i j))) := fun a b va vb fl t ea eb => by
  cases ea; cases eb
  show Gi _ _ _ (if C a b = true then _ else _)
  show Gi (grd (C a b) (.ok (op a b))) _ _ (if C a b = true then R.ok (g a b) _ else .stuck)
  cases C a b
  · trivial
  · exact ⟨_, rfl, h a b⟩
theorem o_mul : Op os vMul rI rI rI (fun i j => grd (cMul i j) (.ok (i * j))) := op_IC fun _ _ => rfl
theorem o_div : Op os vDiv rI rI rI (fun i j => grd (cDiv i j) (.ok (i / j))) := op_IC fun _ _ => rfl
theorem o_mod : Op os vMod rI rI rI (fun i j => grd (cMod i j) (.ok (i % j))) := op_IC fun _ _ => rfl
theorem o_pow : Op os vPow rI rI rI (fun i j => grd (cPow i j) (.ok (i ^ j.toNat))) := op_IC fun _ _ => rfl
/-- one operand is a written number -/
theorem n_mulL {i : Int} {mb : M CV} {q : An Int} (hb : Ex sp os mb rI q) (h : (decide (-(2 ^ 64) < i) && decide (i < 2 ^ 64)) = true := by decide) : Ex sp os (e2 vMul (eC (.int i)) mb) rI (q.bind fun y => .ok (i * y)) := fun env fl t l =>
  (hb env fl t l).bind fun b vb zb => by
    cases zb
    show Gi _ _ _ (if cMul i b = true then _ else _)
    rw [if_pos (by unfold cMul; rw [h]; rfl)]
    exact ⟨_, rfl, rfl⟩
theorem n_mulR {i : Int} {ma : M CV} {p : An Int} (ha : Ex sp os ma rI p) (h : (decide (-(2 ^ 64) < i) && decide (i < 2 ^ 64)) = true := by decide) : Ex sp os (e2 vMul ma (eC (.int i))) rI (p.bind fun y => .ok (y * i)) := fun env fl t l =>
  (ha env fl t l).bind fun b vb zb => by
    cases zb
    show Gi _ _ _ (if cMul b i = true then _ else _)
    rw [if_pos (by unfold cMul; rw [h, Bool.or_true])]
    exact ⟨_, rfl, rfl⟩
theorem n_divR {i : Int} {ma : M CV} {p : An Int} (ha : Ex sp os ma rI p) (h : (decide (0 < i) && decide (i < 1073741824)) = true := by decide) : Ex sp os (e2 vDiv ma (eC (.int i))) rI (p.bind fun y => .ok (y / i)) := fun env fl t l =>
  (ha env fl t l).bind fun b vb zb => by
    cases zb
    show Gi _ _ _ (if cDiv b i = true then _ else _)
    rw [if_pos (show cDiv b i = true from h)]
    exact ⟨_, rfl, rfl⟩
theorem n_modR {i : Int} {ma : M CV} {p : An Int} (ha : Ex sp os ma rI p) (h : decide (0 < i) = true := by decide) : Ex sp os (e2 vMod ma (eC (.int i))) rI (p.bind fun y => .ok (y % i)) := fun env fl t l =>
  (ha env fl t l).bind fun b vb zb => by
    cases zb
    show Gi _ _ _ (if cMod b i = true then _ else _)
    rw [if_pos (show cMod b i = true from h)]
    exact ⟨_, rfl, rfl⟩
theorem n_neg {m : M CV} {p : An Int} (h : Ex sp os m rI p) : Ex sp os (eNeg m) rI (p.bind fun x => .ok (-x)) := fun env fl t l =>
  (h env fl t l).bind fun a va z => by cases z; exact ⟨_, rfl, rfl⟩

/-! ### tests -/
abbrev rT : Bool → Bool → Prop := Is id
theorem n_tV {m : M CV} {p : An Bool} (h : Ex sp os m rB p) : Ex sp os (tV m) rT p := fun env fl t l => by
  have z := Gi.bind (k := asB) (q := fun b => .ok b) (rel2 := rT) (h env fl t l) fun a v e => by cases e; exact ⟨_, rfl, rfl⟩
  rwa [An.bind_ok] at z
theorem n_tNot {m : M Bool} {p : An Bool} (h : Ex sp os m rT p) : Ex sp os (tNot1 m) rT (p.bind fun b => .ok (!b)) := fun env fl t l =>
  (h env fl t l).bind fun a va z => by cases z; exact ⟨_, rfl, rfl⟩
theorem n_tAnd {a b : M Bool} {p q : An Bool} (ha : Ex sp os a rT p) (hb : Ex sp os b rT q) : Ex sp os (tAnd2 a b) rT (p.bind fun c => cond c q (.ok false)) := fun env fl t l =>
  (ha env fl t l).bind fun c v z => by
    cases z
    cases c
    · exact ⟨_, rfl, rfl⟩
    · exact hb env fl t l
theorem n_tOr {a b : M Bool} {p q : An Bool} (ha : Ex sp os a rT p) (hb : Ex sp os b rT q) : Ex sp os (tOr2 a b) rT (p.bind fun c => cond c (.ok true) q) := fun env fl t l =>
  (ha env fl t l).bind fun c v z => by
    cases z
    cases c
    · exact hb env fl t l
    · exact ⟨_, rfl, rfl⟩
theorem n_tAndP {a b : M Bool} {x y : Bool} (ha : Ex sp os a rT (.ok x)) (hb : Ex sp os b rT (.ok y)) : Ex sp os (tAnd2 a b) rT (.ok (x && y)) := by
  have z := n_tAnd ha hb
  cases x <;> exact z
theorem n_tOrP {a b : M Bool} {x y : Bool} (ha : Ex sp os a rT (.ok x)) (hb : Ex sp os b rT (.ok y)) : Ex sp os (tOr2 a b) rT (.ok (x || y)) := by
  have z := n_tOr ha hb
  cases x <;> exact z
theorem n_tTrue : Ex sp os tTrue rT (.ok true) := fun env fl t l => ⟨_, rfl, rfl⟩
theorem n_not {m : M CV} {p : An Bool} (h : Ex sp os m rB p) : Ex sp os (eNot1 m) rB (p.bind fun b => .ok (!b)) := fun env fl t l =>
  (h env fl t l).bind fun a va z => by cases z; exact ⟨_, rfl, rfl⟩
theorem n_and {a b : M CV} {p q : An Bool} (ha : Ex sp os a rB p) (hb : Ex sp os b rB q) : Ex sp os (eAnd2 a b) rB (p.bind fun c => cond c q (.ok false)) := fun env fl t l =>
  (ha env fl t l).bind fun c v z => by
    cases z
    cases c
    · exact ⟨_, rfl, rfl⟩
    · exact hb env fl t l
theorem n_or {a b : M CV} {p q : An Bool} (ha : Ex sp os a rB p) (hb : Ex sp os b rB q) : Ex sp os (eOr2 a b) rB (p.bind fun c => cond c (.ok true) q) := fun env fl t l =>
  (ha env fl t l).bind fun c v z => by
    cases z
    cases c
    · exact hb env fl t l
    · exact ⟨_, rfl, rfl⟩
theorem n_andP {a b : M CV} {x y : Bool} (ha : Ex sp os a rB (.ok x)) (hb : Ex sp os b rB (.ok y)) : Ex sp os (eAnd2 a b) rB (.ok (x && y)) := by
  have z := n_and ha hb
  cases x <;> exact z
theorem n_orP {a b : M CV} {x y : Bool} (ha : Ex sp os a rB (.ok x)) (hb : Ex sp os b rB (.ok y)) : Ex sp os (eOr2 a b) rB (.ok (x || y)) := by
  have z := n_or ha hb
  cases x <;> exact z
theorem n_if {c : M Bool} {a b : M CV} {p : An Bool} {q q' : An α} {rel : α → CV → Prop} (hc : Ex sp os c rT p) (ha : Ex sp os a rel q) (hb : Ex sp os b rel q') : Ex sp os (eIf c a b) rel (p.bind fun d => cond d q q') := fun env fl t l =>
  (hc env fl t l).bind fun d v z => by
    cases z
    cases d
    · exact hb env fl t l
    · exact ha env fl t l
theorem n_ifP {c : M Bool} {a b : M CV} {d : Bool} {x y : α} {rel : α → CV → Prop} (hc : Ex sp os c rT (.ok d)) (ha : Ex sp os a rel (.ok x)) (hb : Ex sp os b rel (.ok y)) : Ex sp os (eIf c a b) rel (.ok (cond d x y)) := by
  have z := n_if hc ha hb
  cases d <;> exact z
theorem n_chain {v v' : CV → CV → Hc → R CV} {ra : α → CV → Prop} {rb : β → CV → Prop} {rc : γ → CV → Prop} {op : α → β → An Bool} {op' : β → γ → An Bool} {a b c : M CV} {p : An α} {q : An β} {r : An γ}
    (o : Op os v ra rb rB op) (o' : Op os v' rb rc rB op') (ha : Ex sp os a ra p) (hb : Ex sp os b rb q) (hc : Ex sp os c rc r) : Ex sp os (eChain v v' a b c) rB (p.bind fun x => q.bind fun y => (op x y).bind fun d => cond d (r.bind fun z => op' y z) (.ok false)) := fun env fl t l =>
  (ha env fl t l).bind fun x vx zx => (hb env fl t l).bind fun y vy zy => (o x y vx vy fl t zx zy).bind fun d vd zd => by
    cases zd
    cases d
    · exact ⟨_, rfl, rfl⟩
    · exact (hc env fl t l).bind fun z vz zz => o' y z vy vz fl t zy zz
theorem n_chainP {v v' : CV → CV → Hc → R CV} {ra : α → CV → Prop} {rb : β → CV → Prop} {rc : γ → CV → Prop} {op : α → β → Bool} {op' : β → γ → Bool} {a b c : M CV} {x : α} {y : β} {z : γ}
    (o : Op os v ra rb rB (fun x y => .ok (op x y))) (o' : Op os v' rb rc rB (fun x y => .ok (op' x y))) (ha : Ex sp os a ra (.ok x)) (hb : Ex sp os b rb (.ok y)) (hc : Ex sp os c rc (.ok z)) : Ex sp os (eChain v v' a b c) rB (.ok (op x y && op' y z)) := by
  have q := n_chain o o' ha hb hc
  have q' : Ex sp os (eChain v v' a b c) rB (cond (op x y) (.ok (op' y z)) (.ok false)) := q
  revert q'
  cases op x y <;> exact id
end
end Bl

/-! Native layer, part B: encodings, sequences, iteration, texts, index, calls, fields. -/
namespace Bl
open PySem PySem.Spec PyProof.Rows L2
section
variable {α β γ δ α' β' α1 α2 α3 α4 α5 α6 α7 α8 : Type} {sp : En} {os : List CO} {fl : Nat} {hp : Hc}
/-! ### encodings -/
def eN : Unit → CV := fun _ => .non
def eO (e : α → CV) : Option α → CV
  | none => .non
  | some a => e a
def eT1 (e1 : α1 → CV) : α1 → CV := fun a => .tup [e1 a]
def eT2 (e1 : α1 → CV) (e2 : α2 → CV) : α1 × α2 → CV := fun a => .tup [e1 a.1, e2 a.2]
def eT3 (e1 : α1 → CV) (e2 : α2 → CV) (e3 : α3 → CV) : α1 × α2 × α3 → CV := fun a => .tup [e1 a.1, e2 a.2.1, e3 a.2.2]
def eT4 (e1 : α1 → CV) (e2 : α2 → CV) (e3 : α3 → CV) (e4 : α4 → CV) : α1 × α2 × α3 × α4 → CV := fun a => .tup [e1 a.1, e2 a.2.1, e3 a.2.2.1, e4 a.2.2.2]
def eT5 (e1 : α1 → CV) (e2 : α2 → CV) (e3 : α3 → CV) (e4 : α4 → CV) (e5 : α5 → CV) : α1 × α2 × α3 × α4 × α5 → CV := fun a => .tup [e1 a.1, e2 a.2.1, e3 a.2.2.1, e4 a.2.2.2.1, e5 a.2.2.2.2]
def eW2 (e1 : α1 → CV) (e2 : α2 → CV) : α1 × α2 → CV := fun a => .wtp [e1 a.1, e2 a.2]
def eW3 (e1 : α1 → CV) (e2 : α2 → CV) (e3 : α3 → CV) : α1 × α2 × α3 → CV := fun a => .wtp [e1 a.1, e2 a.2.1, e3 a.2.2]
def eTs (e : α → CV) : List α → CV := fun xs => .tup (xs.map e)
def eWs (e : α → CV) : List α → CV := fun xs => .wtp (xs.map e)
def eLs (e : α → CV) : List α → CV := fun xs => .lst (xs.map e)
def eDt (t : Bool) (ek : α → CV) (ev : β → CV) : List (α × β) → CV := fun kvs => .dct t (kvs.map fun p => (ek p.1, ev p.2))
/-- a value without refs -/
class Fz (e : α → CV) : Prop where
  lim : ∀ a, limV 0 (e a) = true
theorem fz_map (e : α → CV) [Fz e] : ∀ xs : List α, limL 0 (xs.map e) = true
  | [] => rfl
  | x :: xs => by
    show (limV 0 (e x) && limL 0 (xs.map e)) = true
    rw [Fz.lim x, fz_map e xs]; rfl
theorem l_cons {v : CV} {vs : List CV} (h : limV 0 v = true) (hs : limL 0 vs = true) : limL 0 (v :: vs) = true := by
  show (limV 0 v && limL 0 vs) = true
  rw [h, hs]; rfl
instance : Fz CV.int := ⟨fun _ => rfl⟩
instance : Fz CV.bl := ⟨fun _ => rfl⟩
instance : Fz CV.str := ⟨fun _ => rfl⟩
instance : Fz eN := ⟨fun _ => rfl⟩
instance {e : α → CV} [Fz e] : Fz (eO e) := ⟨fun a => by cases a; rfl; exact Fz.lim (e := e) _⟩
instance {e1 : α1 → CV} [Fz e1] : Fz (eT1 e1) := ⟨fun a => l_cons (Fz.lim _) rfl⟩
instance {e1 : α1 → CV} {e2 : α2 → CV} [Fz e1] [Fz e2] : Fz (eT2 e1 e2) := ⟨fun a => l_cons (Fz.lim _) (l_cons (Fz.lim _) rfl)⟩
instance {e1 : α1 → CV} {e2 : α2 → CV} {e3 : α3 → CV} [Fz e1] [Fz e2] [Fz e3] : Fz (eT3 e1 e2 e3) := ⟨fun a => l_cons (Fz.lim _) (l_cons (Fz.lim _) (l_cons (Fz.lim _) rfl))⟩
instance {e1 : α1 → CV} {e2 : α2 → CV} {e3 : α3 → CV} {e4 : α4 → CV} [Fz e1] [Fz e2] [Fz e3] [Fz e4] : Fz (eT4 e1 e2 e3 e4) := ⟨fun a => l_cons (Fz.lim _) (l_cons (Fz.lim _) (l_cons (Fz.lim _) (l_cons (Fz.lim _) rfl)))⟩
instance {e1 : α1 → CV} {e2 : α2 → CV} {e3 : α3 → CV} {e4 : α4 → CV} {e5 : α5 → CV} [Fz e1] [Fz e2] [Fz e3] [Fz e4] [Fz e5] : Fz (eT5 e1 e2 e3 e4 e5) := ⟨fun a => l_cons (Fz.lim _) (l_cons (Fz.lim _) (l_cons (Fz.lim _) (l_cons (Fz.lim _) (l_cons (Fz.lim _) rfl))))⟩
instance {e1 : α1 → CV} {e2 : α2 → CV} [Fz e1] [Fz e2] : Fz (eW2 e1 e2) := ⟨fun a => l_cons (Fz.lim _) (l_cons (Fz.lim _) rfl)⟩
instance {e1 : α1 → CV} {e2 : α2 → CV} {e3 : α3 → CV} [Fz e1] [Fz e2] [Fz e3] : Fz (eW3 e1 e2 e3) := ⟨fun a => l_cons (Fz.lim _) (l_cons (Fz.lim _) (l_cons (Fz.lim _) rfl))⟩
instance {e : α → CV} [Fz e] : Fz (eTs e) := ⟨fun xs => fz_map e xs⟩
instance {e : α → CV} [Fz e] : Fz (eWs e) := ⟨fun xs => fz_map e xs⟩
instance {e : α → CV} : Fz (eLs e) := ⟨fun xs => rfl⟩
instance {t : Bool} {ek : α → CV} {ev : β → CV} : Fz (eDt t ek ev) := ⟨fun xs => rfl⟩
/-- freezing leaves it as it is -/
theorem frz_froz (os : List CO) (f d : Nat) (top : Bool) : ∀ {v : CV}, limV 0 v = true → frz os f (d + 1) top v = some v
  | .non, _ => rfl
  | .bl _, _ => rfl
  | .int _, _ => rfl
  | .str _, _ => rfl
  | .tup xs, h => by unfold frz; rw [if_pos (show limL 0 xs = true from h)]
  | .wtp xs, h => by unfold frz; rw [if_pos (show limL 0 xs = true from h)]
  | .wdc _, _ => rfl
  | .lst _, _ => rfl
  | .dct _ _, _ => rfl
  | .ins _ _, _ => rfl
  | .ref n, h => by unfold limV at h; simp at h
theorem frzL_froz (os : List CO) (f d : Nat) (top : Bool) : ∀ {xs : List CV}, limL 0 xs = true → frzL (frz os f (d + 1) top) xs = some xs
  | [], _ => rfl
  | x :: xs, h => by
    have h' : (limV 0 x && limL 0 xs) = true := h
    rw [Bool.and_eq_true] at h'
    unfold frzL
    rw [frz_froz os f d top h'.1, frzL_froz os f d top h'.2]
theorem frzV_froz (os : List CO) (f : Nat) {v : CV} (h : limV 0 v = true) : frzV os f v = some v := by
  unfold frzV
  rw [if_pos (limV_mono (Nat.zero_le _) v h)]
theorem frzV_lst {os : List CO} {f n : Nat} {xs : List CV} (hn : f ≤ n) (ho : os[n]? = some (.lst xs)) (h : limL 0 xs = true) : frzV os f (.ref n) = some (.lst xs) := by
  unfold frzV
  rw [if_neg (by unfold limV; simpa using hn)]
  unfold frz
  rw [if_neg (by omega), ho]
  simp only []
  rw [frzL_froz os f 14 false h]
  rfl
theorem frzK_froz (os : List CO) (f d : Nat) (top : Bool) : ∀ {xs : List (CV × CV)}, limK 0 xs = true → frzK (frz os f (d + 1) top) xs = some xs
  | [], _ => rfl
  | x :: xs, h => by
    have h' : (limV 0 x.2 && limK 0 xs) = true := h
    rw [Bool.and_eq_true] at h'
    unfold frzK
    rw [frz_froz os f d top h'.1, frzK_froz os f d top h'.2]
theorem frzV_dic {os : List CO} {f n : Nat} {t : Bool} {xs : List (CV × CV)} (hn : f ≤ n) (ho : os[n]? = some (.dic t xs)) (h : limK 0 xs = true) : frzV os f (.ref n) = some (.dct t xs) := by
  unfold frzV
  rw [if_neg (by unfold limV; simpa using hn)]
  unfold frz
  rw [if_neg (by omega), ho]
  simp only []
  rw [frzK_froz os f 14 false h]
  rfl
theorem frzF_froz (os : List CO) (f d : Nat) (top : Bool) : ∀ {xs : List (Nat × CV)}, limF 0 xs = true → frzF (frz os f (d + 1) top) xs = some xs
  | [], _ => rfl
  | x :: xs, h => by
    have h' : (limV 0 x.2 && limF 0 xs) = true := h
    rw [Bool.and_eq_true] at h'
    unfold frzF
    rw [frz_froz os f d top h'.1, frzF_froz os f d top h'.2]
theorem frzV_ins {os : List CO} {f n c : Nat} {xs : List (Nat × CV)} (hn : f ≤ n) (ho : os[n]? = some (.ins c xs)) (h : limF 0 xs = true) : frzV os f (.ref n) = some (.ins c xs) := by
  unfold frzV
  rw [if_neg (by unfold limV; simpa using hn)]
  unfold frz
  rw [if_neg (by omega), ho]
  simp only []
  rw [frzF_froz os f 14 false h]
  rfl

/-! ### sequences read -/
/-- v reads as the items xs -/
def Sq (os : List CO) (e : α → CV) (xs : List α) (v : CV) : Prop := (∀ fl t, seqItems ⟨fl, os ++ t⟩ v = some (xs.map e)) ∧ ∀ s, v ≠ .str s
/-- a frozen one -/
def Sf (e : α → CV) (xs : List α) (v : CV) : Prop := v = .tup (xs.map e) ∨ v = .wtp (xs.map e) ∨ v = .lst (xs.map e)
theorem Sf.sq {e : α → CV} {xs : List α} {v : CV} (h : Sf e xs v) : Sq os e xs v := by
  rcases h with h | h | h <;> (subst h; exact ⟨fun _ _ => rfl, fun _ z => by cases z⟩)
theorem sf_ts {e : α → CV} {xs : List α} {v : CV} (h : Is (eTs e) xs v) : Sf e xs v := .inl h
theorem sf_ws {e : α → CV} {xs : List α} {v : CV} (h : Is (eWs e) xs v) : Sf e xs v := .inr (.inl h)
theorem sf_ls {e : α → CV} {xs : List α} {v : CV} (h : Is (eLs e) xs v) : Sf e xs v := .inr (.inr h)
theorem x_ts {e : α → CV} {m : M CV} {p : An (List α)} (h : Ex sp os m (Is (eTs e)) p) : Ex sp os m (Sf e) p := h.imp fun _ _ => sf_ts
theorem x_ws {e : α → CV} {m : M CV} {p : An (List α)} (h : Ex sp os m (Is (eWs e)) p) : Ex sp os m (Sf e) p := h.imp fun _ _ => sf_ws
theorem x_ls {e : α → CV} {m : M CV} {p : An (List α)} (h : Ex sp os m (Is (eLs e)) p) : Ex sp os m (Sf e) p := h.imp fun _ _ => sf_ls
theorem x_sq {e : α → CV} {m : M CV} {p : An (List α)} (h : Ex sp os m (Sf e) p) : Ex sp os m (Sq os e) p := h.imp fun _ _ => Sf.sq
theorem get_app {os t : List CO} {n : Nat} {o : CO} (h : os[n]? = some o) : (os ++ t)[n]? = some o := by
  rw [List.getElem?_append_left (List.getElem?_eq_some_iff.mp h).1]; exact h
/-- a living list -/
theorem x_ref {e : α → CV} {i n : Nat} {xs : List α} (h : sp[i]? = some (some (.ref n)) := by rfl) (ho : os[n]? = some (.lst (xs.map e)) := by rfl) : Ex sp os (eVar i) (Sq os e) (.ok xs) := fun env fl t l => by
  have z := l.get h
  unfold eVar
  rw [z]
  refine ⟨_, rfl, fun fl t => ?_, fun _ w => by cases w⟩
  show (match (os ++ t)[n]? with | some (.lst xs) => some xs | _ => none) = _
  rw [get_app ho]
/-! ### texts, lengths -/
theorem o_addS : Op os vAdd rS rS rS (fun a b => grd (okLen (a.length + b.length)) (.ok (a ++ b))) := fun a b va vb fl t ea eb => by
  cases ea; cases eb
  show Gi (grd _ _) _ _ (if okLen (a.length + b.length) = true then _ else _)
  cases okLen (a.length + b.length)
  · trivial
  · exact ⟨_, rfl, rfl⟩
theorem n_len {e : α → CV} {m : M CV} {p : An (List α)} (h : Ex sp os m (Sq os e) p) : Ex sp os (eBi (bOr bLen bLenD) [m]) rI (p.bind fun xs => .ok (xs.length : Int)) := fun env fl t l => by
  have z := Gi.bind (k := fun v hp => (R.ok [] hp).bind fun vs hp => R.ok (v :: vs) hp) (q := fun xs => .ok xs) (rel2 := fun xs vs => ∃ v, vs = [v] ∧ Sq os e xs v) (h env fl t l) fun a v q => ⟨_, rfl, v, rfl, q⟩
  rw [An.bind_ok] at z
  refine Gi.bind z fun xs vs q => ?_
  obtain ⟨v, rfl, q1, q2⟩ := q
  have e1 : bLen [v] ⟨fl, os ++ t⟩ = .ok (.int xs.length) ⟨fl, os ++ t⟩ := by
    unfold bLen
    split
    · rename_i s w; cases w; exact absurd rfl (q2 _)
    · rename_i x _ w; cases w
      rw [q1]
      simp
    · rename_i w; exact (w v rfl).elim
  refine ⟨_, ?_, rfl⟩
  unfold bOr
  rw [e1]
theorem n_lenS {m : M CV} {p : An (List Nat)} (h : Ex sp os m rS p) : Ex sp os (eBi (bOr bLen bLenD) [m]) rI (p.bind fun s => grd (okLen s.length) (.ok (s.length : Int))) := fun env fl t l => by
  have z := Gi.bind (k := fun v hp => (R.ok [] hp).bind fun vs hp => R.ok (v :: vs) hp) (q := fun xs => .ok xs) (rel2 := fun xs vs => vs = [CV.str xs]) (h env fl t l) fun a v q => ⟨_, rfl, by rw [q]⟩
  rw [An.bind_ok] at z
  refine Gi.bind z fun s vs q => ?_
  cases q
  show Gi _ _ _ (match (if okLen s.length = true then R.ok (CV.int s.length) _ else .stuck) with | .stuck => _ | r => r)
  cases okLen s.length
  · trivial
  · exact ⟨_, rfl, rfl⟩
/-! ### displays -/
/-- the parts of a display -/
def ExA {α : Type} (sp : En) (os : List CO) (ms : List (M CV)) (rel : α → List CV → Prop) (p : An α) : Prop := Ex sp os (evA ms) rel p
theorem a_nil : Ex sp os (evA []) (Is fun _ : Unit => ([] : List CV)) (.ok ()) := fun env fl t l => ⟨_, rfl, rfl⟩
/-- one more part, the rest by a function of it -/
theorem a_cons {m : M CV} {ms : List (M CV)} {ra : α → CV → Prop} {p : An α} {rel : β → List CV → Prop} {q : α → An β} (h : Ex sp os m ra p) (hs : ∀ a v, ra a v → Ex sp os (fun env hp => (evA ms env hp).bind fun vs hp => .ok (v :: vs) hp) rel (q a)) : Ex sp os (evA (m :: ms)) rel (p.bind q) := h.bind hs
theorem a_last {m : M CV} {ra : α → CV → Prop} {p : An α} (h : Ex sp os m ra p) : Ex sp os (evA [m]) (fun a vs => ∃ v, vs = [v] ∧ ra a v) p := fun env fl t l => by
  have z := Gi.bind (k := fun v hp => (R.ok [] hp).bind fun vs hp => R.ok (v :: vs) hp) (q := fun xs => .ok xs) (rel2 := fun a vs => ∃ v, vs = [v] ∧ ra a v) (h env fl t l) fun a v q => ⟨_, rfl, v, rfl, q⟩
  rwa [An.bind_ok] at z
/-- items of one kind -/
theorem al_nil {e : α → CV} : Ex sp os (evA []) (fun (xs : List α) vs => vs = xs.map e) (.ok []) := fun env fl t l => ⟨_, rfl, rfl⟩
theorem al_cons {e : α → CV} {m : M CV} {ms : List (M CV)} {p : An α} {q : An (List α)} (h : Ex sp os m (Is e) p) (hs : Ex sp os (evA ms) (fun (xs : List α) vs => vs = xs.map e) q) : Ex sp os (evA (m :: ms)) (fun (xs : List α) vs => vs = xs.map e) (p.bind fun x => q.bind fun xs => .ok (x :: xs)) :=
  h.bind fun a v z => fun env fl t l => (hs env fl t l).bind fun xs vs w => by cases z; cases w; exact ⟨_, rfl, rfl⟩
theorem n_tupS {e : α → CV} {ms : List (M CV)} {p : An (List α)} (h : Ex sp os (evA ms) (fun (xs : List α) vs => vs = xs.map e) p) (hl : okLen ms.length = true := by rfl) : Ex sp os (eTup ms) (Is (eTs e)) p := fun env fl t l => by
  have z := h env fl t l
  unfold eTup
  cases hz : evA ms env ⟨fl, os ++ t⟩ with
  | stuck => rw [hz] at z; cases p with
    | ok _ => obtain ⟨_, w, _⟩ := z; cases w
    | exc _ _ => cases z
    | stuck => trivial
  | exc c fs hp' => rw [hz] at z; cases p with
    | ok _ => obtain ⟨_, w, _⟩ := z; cases w
    | exc _ _ => cases z; rfl
    | stuck => trivial
  | ok vs hp' =>
    have ln := evA_len hz
    rw [hz] at z
    cases p with
    | ok xs =>
      obtain ⟨_, w, e2⟩ := z
      cases w
      refine ⟨.tup vs, ?_, by rw [e2]; rfl⟩
      show (if okLen vs.length = true then _ else _) = _
      rw [ln, if_pos hl]
    | exc _ _ => cases z
    | stuck => trivial
/-- a list display, frozen at once -/
theorem scop_ok {m : M CV} {env : En} {v w : CV} {t' : List CO} {fl' fl : Nat} {o : List CO} (h : m env ⟨o.length, o⟩ = .ok v ⟨fl', o ++ t'⟩) (hf : frzV (o ++ t') o.length v = some w) : scopM m env ⟨fl, o⟩ = .ok w ⟨fl, o⟩ := by
  unfold scopM scop
  simp only [Hc.N, h]
  show (match frzV (o ++ t') o.length v with | some v' => R.ok v' ((⟨fl', o ++ t'⟩ : Hc).cut fl o.length) | none => .stuck) = _
  rw [hf]
  show R.ok w ⟨fl, (o ++ t').take o.length⟩ = _
  rw [List.take_left]
theorem scop_exc {m : M CV} {env : En} {c : Nat} {fs : List (Nat × CV)} {t' : List CO} {fl' fl : Nat} {o : List CO} (h : m env ⟨o.length, o⟩ = .exc c fs ⟨fl', o ++ t'⟩) : scopM m env ⟨fl, o⟩ = .exc c fs ⟨fl, o⟩ := by
  unfold scopM scop
  simp only [Hc.N, h]
  show R.exc c fs ⟨fl, (o ++ t').take o.length⟩ = _
  rw [List.take_left]
theorem n_lstS {e : α → CV} [Fz e] {ms : List (M CV)} {p : An (List α)} (h : Ex sp os (evA ms) (fun (xs : List α) vs => vs = xs.map e) p) (hl : okLen ms.length = true := by rfl) : Ex sp os (scopM (eLst ms)) (Is (eLs e)) p := fun env fl t l => by
  have z := h env (os ++ t).length t l
  cases p with
  | stuck => trivial
  | exc c fs =>
    refine scop_exc (t' := []) (fl' := (os ++ t).length) ?_
    unfold eLst
    rw [show evA ms env ⟨(os ++ t).length, os ++ t⟩ = _ from z, List.append_nil]
    rfl
  | ok xs =>
    obtain ⟨vs, w, e2⟩ := z
    have ln := evA_len w
    refine ⟨_, scop_ok (t' := [.lst vs]) (fl' := (os ++ t).length) (v := .ref (os ++ t).length) (w := .lst vs) ?_ ?_, by rw [e2]; rfl⟩
    · unfold eLst
      rw [w]
      show newL vs _ = _
      unfold newL
      rw [ln, if_pos hl]
      rfl
    · refine frzV_lst (Nat.le_refl _) ?_ (by rw [e2]; exact fz_map e xs)
      rw [List.getElem?_append_right (Nat.le_refl _), Nat.sub_self]
      rfl
theorem n_bi1 {f : List CV → Hc → R CV} {m : M CV} {ra : α → CV → Prop} {p : An α} {q : α → An β} {rel : β → CV → Prop} (h : Ex sp os m ra p) (hf : ∀ a v fl t, ra a v → Gi (q a) rel ⟨fl, os ++ t⟩ (f [v] ⟨fl, os ++ t⟩)) : Ex sp os (eBi f [m]) rel (p.bind q) := fun env fl t l =>
  Gi.bind (a_last h env fl t l) fun a vs z => by obtain ⟨v, rfl, z⟩ := z; exact hf a v fl t z
theorem n_abs {m : M CV} {p : An Int} (h : Ex sp os m rI p) : Ex sp os (eBi bAbs [m]) rI (p.bind fun i => .ok (if i < 0 then -i else i)) := n_bi1 h fun a v fl t z => by cases z; exact ⟨_, rfl, rfl⟩
theorem n_intI {m : M CV} {p : An Int} (h : Ex sp os m rI p) : Ex sp os (eBi bInt [m]) rI (p.bind fun i => .ok i) := n_bi1 h fun a v fl t z => by cases z; exact ⟨_, rfl, rfl⟩
theorem n_intB {m : M CV} {p : An Bool} (h : Ex sp os m rB p) : Ex sp os (eBi bInt [m]) rI (p.bind fun b => .ok (cond b 1 0)) := n_bi1 h fun a v fl t z => by cases z; cases a <;> exact ⟨_, rfl, rfl⟩
theorem n_tuple {e : α → CV} {m : M CV} {p : An (List α)} (h : Ex sp os m (Sq os e) p) (hw : ∀ xs v, p = .ok xs → Sq os e xs v → ∀ ys, v ≠ .wtp ys) : True := trivial
/-- tuple(a list) -/
def Sl (os : List CO) (e : α → CV) (xs : List α) (v : CV) : Prop := Sq os e xs v ∧ (∀ ys, v ≠ .wtp ys)
theorem sl_ls {e : α → CV} {m : M CV} {p : An (List α)} (h : Ex sp os m (Is (eLs e)) p) : Ex sp os m (Sl os e) p := h.imp fun xs v z => ⟨(sf_ls z).sq, fun ys w => by rw [z] at w; cases w⟩
theorem sl_ts {e : α → CV} {m : M CV} {p : An (List α)} (h : Ex sp os m (Is (eTs e)) p) : Ex sp os m (Sl os e) p := h.imp fun xs v z => ⟨(sf_ts z).sq, fun ys w => by rw [z] at w; cases w⟩
theorem sl_ref {e : α → CV} {i n : Nat} {xs : List α} (h : sp[i]? = some (some (.ref n)) := by rfl) (ho : os[n]? = some (.lst (xs.map e)) := by rfl) : Ex sp os (eVar i) (Sl os e) (.ok xs) := fun env fl t l => by
  obtain ⟨v, e1, e2⟩ := x_ref (e := e) (xs := xs) h ho env fl t l
  have z := l.get h
  refine ⟨v, e1, e2, fun ys w => ?_⟩
  unfold eVar at e1
  rw [z] at e1
  cases e1
  cases w
theorem n_tupleL {e : α → CV} {m : M CV} {p : An (List α)} (h : Ex sp os m (Sl os e) p) : Ex sp os (eBi bTuple [m]) (Is (eTs e)) (p.bind fun xs => .ok xs) := n_bi1 h fun a v fl t z => by
  have q := z.1.1 fl t
  refine ⟨.tup (a.map e), ?_, rfl⟩
  unfold bTuple
  cases v with
  | tup ys => cases q; rfl
  | wtp ys => exact absurd rfl (z.2 ys)
  | _ => simp only [q]
/-! ### index -/
theorem atI_map {f : α → β} {xs : List α} {i : Int} : atI (xs.map f) i = (atI xs i).map f := by
  unfold atI
  rw [List.length_map]
  cases ixN xs.length i with
  | none => rfl
  | some n => exact List.getElem?_map
def An.opt {α : Type} : Option α → An α
  | some a => .ok a
  | none => .stuck
theorem n_ixS {tabs : List WTab} {e : α → CV} {ma mi : M CV} {p : An (List α)} {q : An Int} (ha : Ex sp os ma (Sq os e) p) (hi : Ex sp os mi rI q) : Ex sp os (e2 (vIxX tabs) ma mi) (Is e) (p.bind fun xs => q.bind fun i => .opt (atI xs i)) :=
  n_e2 (fun xs i va vb fl t za zb => by
    cases zb
    have z := za.1 fl t
    have e1 : vIx va (.int i) ⟨fl, os ++ t⟩ = match atI (xs.map e) i with | some v => R.ok v ⟨fl, os ++ t⟩ | none => .stuck := by
      unfold vIx
      split
      · rename_i s j _ _ _ ; exact absurd rfl (za.2 _)
      · rename_i w; cases w
        rw [z]
        first | done | rfl
      · rename_i w _; exact (w i rfl).elim
    rw [atI_map] at e1
    show Gi _ _ _ (match vIx va (.int i) ⟨fl, os ++ t⟩ with | .stuck => _ | r => r)
    rw [e1]
    cases atI xs i with
    | none => trivial
    | some x => exact ⟨_, rfl, rfl⟩) ha hi
theorem n_ixStr {tabs : List WTab} {ma mi : M CV} {p : An (List Nat)} {q : An Int} (ha : Ex sp os ma rS p) (hi : Ex sp os mi rI q) : Ex sp os (e2 (vIxX tabs) ma mi) rS (p.bind fun s => q.bind fun i => grd (okLen s.length) (.opt ((atI s i).map fun c => [c]))) :=
  n_e2 (fun s i va vb fl t za zb => by
    cases za; cases zb
    show Gi _ _ _ (match (if okLen s.length = true then (match atI s i with | some c => R.ok (CV.str [c]) ⟨fl, os ++ t⟩ | none => .stuck) else .stuck) with | .stuck => _ | r => r)
    cases okLen s.length
    · trivial
    · cases atI s i with
      | none => trivial
      | some x => exact ⟨_, rfl, rfl⟩) ha hi
/-- the i-th of a tuple of fixed parts -/
theorem n_ixC {tabs : List WTab} {m : M CV} {enc : α → CV} {enc' : β → CV} {g : α → β} {i : Int} {p : An α} (h : Ex sp os m (Is enc) p) (hx : ∀ a hp, vIx (enc a) (.int i) hp = .ok (enc' (g a)) hp := by intro _ _; rfl) : Ex sp os (e2 (vIxX tabs) m (eC (.int i))) (Is enc') (p.bind fun a => .ok (g a)) := fun env fl t l =>
  (h env fl t l).bind fun a v z => by
    cases z
    show Gi _ _ _ (match vIx (enc a) (.int i) ⟨fl, os ++ t⟩ with | .stuck => _ | r => r)
    rw [hx]
    exact ⟨_, rfl, rfl⟩
/-! ### fields -/
theorem n_fld {tab : List (List Nat)} {k : Nat} {m : M CV} {enc : α → CV} {enc' : β → CV} {g : α → β} {p : An α} (h : Ex sp os m (Is enc) p) (hx : ∀ a hp, ∃ c fs, fldsOf hp (enc a) = some (c, fs) ∧ hasF tab c k = true ∧ lookF k fs = some (enc' (g a)) := by intro _ _; exact ⟨_, _, rfl, rfl, rfl⟩) : Ex sp os (eFld tab k m) (Is enc') (p.bind fun a => .ok (g a)) := fun env fl t l =>
  (h env fl t l).bind fun a v z => by
    cases z
    obtain ⟨c, fs, e1, e2, e3⟩ := hx a ⟨fl, os ++ t⟩
    rw [e1]
    simp only [e2, e3, if_true]
    exact ⟨_, rfl, rfl⟩
/-! ### iteration -/
def Wk (e : α → CV) (xs : List α) (it : ITc) : Prop := xs.length + 1 ≤ it.fuel ∧ ∀ i hp, i ≤ xs.length → it.next i hp = some (xs.map e)[i]?
theorem wk_snap {e : α → CV} {xs : List α} : Wk e xs (snap (xs.map e)) := ⟨by show _ ≤ (xs.map e).length + 1; rw [List.length_map]; exact Nat.le_refl _, fun _ _ _ => rfl⟩
theorem n_mIt {m : M α} {f : α → Hc → Option ITc} {ra : γ → α → Prop} {p : An γ} {q : γ → An (List β)} {e : β → CV} (h : Ex sp os m ra p) (hf : ∀ a v fl t, ra a v → match q a with
    | .ok xs => ∃ it, f v ⟨fl, os ++ t⟩ = some it ∧ Wk e xs it
    | .exc _ _ => False
    | .stuck => True) : Ex sp os (mIt m f) (Wk e) (p.bind q) := fun env fl t l =>
  (h env fl t l).bind fun a v z => by
    have w := hf a v fl t z
    revert w
    cases q a with
    | ok xs => intro ⟨it, e1, e2⟩; rw [e1]; exact ⟨_, rfl, e2⟩
    | exc _ _ => intro h; exact h.elim
    | stuck => intro _; trivial
theorem i_any {e : α → CV} {m : M CV} {p : An (List α)} (h : Ex sp os m (Sf e) p) : Ex sp os (mIt m itAny) (Wk e) (p.bind fun xs => .ok xs) := n_mIt h fun a v fl t z => by
  rcases z with z | z | z <;> (subst z; exact ⟨_, rfl, wk_snap⟩)
theorem i_str {m : M CV} {p : An (List Nat)} (h : Ex sp os m rS p) : Ex sp os (mIt m itAny) (Wk CV.str) (p.bind fun s => .ok (s.map fun c => [c])) := n_mIt h fun a v fl t z => by
  cases z
  refine ⟨snap (a.map fun c => .str [c]), rfl, ?_⟩
  have w := wk_snap (e := CV.str) (xs := a.map fun c => [c])
  rw [List.map_map] at w
  exact w
def rngL (i j : Int) : List Int := (List.range (j - i).toNat).map fun (k : Nat) => i + (k : Int)
theorem wk_rng (i j : Int) : Wk CV.int (rngL i j) (rngI i (j - i).toNat) := by
  refine ⟨by show _ ≤ (j - i).toNat + 1; simp [rngL], fun k hp hk => ?_⟩
  show some (if k < (j - i).toNat then some (CV.int (i + k)) else none) = _
  unfold rngL
  rw [List.map_map, List.getElem?_map]
  by_cases h : k < (j - i).toNat
  · rw [if_pos h, List.getElem?_range h]; rfl
  · rw [if_neg h, List.getElem?_eq_none (by simpa using h)]; rfl
theorem i_r1 {m : M CV} {p : An Int} (h : Ex sp os m rI p) : Ex sp os (mIt (evA [m]) itR1) (Wk CV.int) (p.bind fun j => grd (okR j) (.ok (rngL 0 j))) := n_mIt (a_last h) fun a vs fl t z => by
  obtain ⟨v, rfl, z⟩ := z
  cases z
  have e1 : itR1 [CV.int a] ⟨fl, os ++ t⟩ = if okR a = true then some (rngI 0 a.toNat) else none := rfl
  by_cases hk : okR a = true
  · simp only [hk, grd, cond_true]
    exact ⟨_, by rw [e1, if_pos hk], by have := wk_rng 0 a; rwa [Int.sub_zero] at this⟩
  · simp only [(Bool.not_eq_true _).mp hk, grd, cond_false]
theorem a_two {m1 m2 : M CV} {r1 : α → CV → Prop} {r2 : β → CV → Prop} {p : An α} {q : An β} (h1 : Ex sp os m1 r1 p) (h2 : Ex sp os m2 r2 q) : Ex sp os (evA [m1, m2]) (fun (x : α × β) vs => ∃ v w, vs = [v, w] ∧ r1 x.1 v ∧ r2 x.2 w) (p.bind fun a => q.bind fun b => .ok (a, b)) :=
  h1.bind fun a v z => fun env fl t l => (a_last h2 env fl t l).bind fun b vs w => by obtain ⟨w', rfl, w⟩ := w; exact ⟨_, rfl, v, w', rfl, z, w⟩
theorem n_mIt2 {m1 m2 : M CV} {f : List CV → Hc → Option ITc} {r1 : α → CV → Prop} {r2 : β → CV → Prop} {p1 : An α} {p2 : An β} {q : α → β → An (List γ)} {e : γ → CV} (h1 : Ex sp os m1 r1 p1) (h2 : Ex sp os m2 r2 p2) (hf : ∀ a b v w fl t, r1 a v → r2 b w → match q a b with
    | .ok xs => ∃ it, f [v, w] ⟨fl, os ++ t⟩ = some it ∧ Wk e xs it
    | .exc _ _ => False
    | .stuck => True) : Ex sp os (mIt (evA [m1, m2]) f) (Wk e) (p1.bind fun a => p2.bind fun b => q a b) := by
  have z := n_mIt (q := fun (x : α × β) => q x.1 x.2) (f := f) (e := e) (a_two h1 h2) fun x vs fl t ⟨v, w, e1, z1, z2⟩ => by subst e1; exact hf x.1 x.2 v w fl t z1 z2
  have e1 : ((p1.bind fun a => p2.bind fun b => An.ok (a, b)).bind fun x => q x.1 x.2) = p1.bind fun a => p2.bind fun b => q a b := by
    rw [An.bind_assoc]; congr 1; funext a; rw [An.bind_assoc]; rfl
  rwa [e1] at z
theorem i_r2 {m1 m2 : M CV} {p q : An Int} (h1 : Ex sp os m1 rI p) (h2 : Ex sp os m2 rI q) : Ex sp os (mIt (evA [m1, m2]) itR2) (Wk CV.int) (p.bind fun i => q.bind fun j => grd (okR i && okR j) (.ok (rngL i j))) := n_mIt2 h1 h2 fun a b v w fl t z1 z2 => by
  cases z1; cases z2
  have e1 : itR2 [CV.int a, CV.int b] ⟨fl, os ++ t⟩ = if (okR a && okR b) = true then some (rngI a (b - a).toNat) else none := rfl
  by_cases hk : (okR a && okR b) = true
  · simp only [hk, grd, cond_true]
    exact ⟨_, by rw [e1, if_pos hk], wk_rng a b⟩
  · simp only [(Bool.not_eq_true _).mp hk, grd, cond_false]
def enumL : Int → List α → List (Int × α)
  | _, [] => []
  | i, x :: xs => (i, x) :: enumL (i + 1) xs
theorem enumL_len : ∀ (xs : List α) (i : Int), (enumL i xs).length = xs.length
  | [], _ => rfl
  | _ :: xs, i => congrArg (· + 1) (enumL_len xs (i + 1))
theorem enumL_get : ∀ (xs : List α) (i : Int) (k : Nat), (enumL i xs)[k]? = xs[k]?.map fun x => (i + (k : Int), x)
  | [], _, _ => rfl
  | x :: xs, i, 0 => by simp [enumL]
  | x :: xs, i, k + 1 => by
    show (enumL (i + 1) xs)[k]? = xs[k]?.map _
    rw [enumL_get xs (i + 1) k]
    have e : i + 1 + (k : Int) = i + ((k + 1 : Nat) : Int) := by omega
    rw [e]
theorem wk_enum {e : α → CV} {xs : List α} {it : ITc} (h : Wk e xs it) : Wk (eT2 CV.int e) (enumL 0 xs) (enumI it) := by
  refine ⟨by rw [enumL_len]; exact h.1, fun k hp hk => ?_⟩
  rw [enumL_len] at hk
  show (match it.next k hp with | some (some v) => some (some (CV.tup [.int k, v])) | some none => some none | none => none) = _
  rw [h.2 k hp hk, List.getElem?_map, List.getElem?_map, enumL_get]
  cases xs[k]? with
  | none => rfl
  | some x => simp [eT2]
theorem wk_snapE {e : α → CV} {xs : List α} : Wk e xs (snapE (xs.map e)) := by
  refine ⟨by show _ ≤ (xs.map e).length + 1; rw [List.length_map]; exact Nat.le_refl _, fun i hp hi => ?_⟩
  show (if i ≤ (xs.map e).length then some (xs.map e)[i]? else none) = _
  rw [List.length_map, if_pos hi]
theorem i_en {e : α → CV} {m : M CV} {p : An (List α)} (h : Ex sp os m (Sf e) p) : Ex sp os (mIt (evA [m]) itEnA) (Wk (eT2 CV.int e)) (p.bind fun xs => .ok (enumL 0 xs)) := n_mIt (a_last h) fun a vs fl t z => by
  obtain ⟨v, rfl, z⟩ := z
  rcases z with z | z | z
  · subst z; exact ⟨_, rfl, wk_enum wk_snapE⟩
  · subst z; exact ⟨_, rfl, wk_enum wk_snapE⟩
  · subst z; exact ⟨_, rfl, wk_enum wk_snap⟩
theorem i_enS {m : M CV} {p : An (List Nat)} (h : Ex sp os m rS p) : Ex sp os (mIt (evA [m]) itEnA) (Wk (eT2 CV.int CV.str)) (p.bind fun s => .ok (enumL 0 (s.map fun c => [c]))) := n_mIt (a_last h) fun a vs fl t z => by
  obtain ⟨v, rfl, z⟩ := z
  cases z
  refine ⟨_, rfl, ?_⟩
  have w := wk_enum (wk_snapE (e := CV.str) (xs := a.map fun c => [c]))
  rw [List.map_map] at w
  exact w
end
end Bl

/-! Native layer, part C: equality, membership, dicts, comprehensions, calls. -/
namespace Bl
open PySem PySem.Spec PyProof.Rows L2
section
variable {α β γ δ κ α' β' α1 α2 α3 α4 α5 α6 α7 α8 : Type} {sp : En} {os : List CO} {fl : Nat} {hp : Hc}
abbrev ngB (neg b : Bool) : Bool := cond neg (!b) b
/-! ### equality -/
theorem o_eqI : Op os (vEq false) rI rI rB (fun a b => .ok (decide (a = b))) := fun a b va vb fl t ea eb => by cases ea; cases eb; exact ⟨_, rfl, rfl⟩
theorem o_neI : Op os (vEq true) rI rI rB (fun a b => .ok (!decide (a = b))) := fun a b va vb fl t ea eb => by cases ea; cases eb; exact ⟨_, rfl, rfl⟩
theorem o_eqS : Op os (vEq false) rS rS rB (fun a b => .ok (decide (a = b))) := fun a b va vb fl t ea eb => by cases ea; cases eb; exact ⟨_, rfl, by rw [← eqN_dec]; rfl⟩
theorem o_neS : Op os (vEq true) rS rS rB (fun a b => .ok (!decide (a = b))) := fun a b va vb fl t ea eb => by cases ea; cases eb; exact ⟨_, rfl, by rw [← eqN_dec]; rfl⟩
theorem o_eqB : Op os (vEq false) rB rB rB (fun a b => .ok (a == b)) := fun a b va vb fl t ea eb => by cases ea; cases eb; exact ⟨_, rfl, rfl⟩
theorem o_neB : Op os (vEq true) rB rB rB (fun a b => .ok (!(a == b))) := fun a b va vb fl t ea eb => by cases ea; cases eb; exact ⟨_, rfl, rfl⟩
/-- deep equality -/
class EqV (e : α → CV) where
  py : α → PyData
  dep : Nat
  can : α → Bool
  eqb : α → α → Bool
  toPy : ∀ os d a, dep < d → toPy os d (e a) = some (py a)
  depth : ∀ a, (py a).depth ≤ dep
  ok : ∀ a, can a = true → (py a).canLay0 = true
  eq : ∀ a b, PyData.eqv (py a) (py b) = eqb a b
def lEqb (f : α → α → Bool) : List α → List α → Bool
  | [], [] => true
  | x :: xs, y :: ys => f x y && lEqb f xs ys
  | _, _ => false
theorem pyL_map {g : CV → Option PyData} {e : α → CV} {py : α → PyData} (h : ∀ a, g (e a) = some (py a)) : ∀ xs : List α, pyL g (xs.map e) = some (xs.map py)
  | [] => rfl
  | x :: xs => by
    show pyL g (e x :: xs.map e) = some (py x :: xs.map py)
    unfold pyL
    rw [h x, pyL_map h xs]
theorem depthAll_map {py : α → PyData} {n : Nat} (h : ∀ a, (py a).depth ≤ n) : ∀ xs : List α, PyData.depthAll (xs.map py) ≤ n
  | [] => Nat.zero_le _
  | x :: xs => by
    show PyData.depthAll (py x :: xs.map py) ≤ n
    unfold PyData.depthAll
    exact Nat.max_le.mpr ⟨h x, depthAll_map h xs⟩
theorem canAll_map {py : α → PyData} {can : α → Bool} (h : ∀ a, can a = true → (py a).canLay0 = true) : ∀ xs : List α, xs.all can = true → PyData.canLayAll0 (xs.map py) = true
  | [], _ => by simp [PyData.canLayAll0]
  | x :: xs, q => by
    rw [List.all_cons, Bool.and_eq_true] at q
    show PyData.canLayAll0 (py x :: xs.map py) = true
    unfold PyData.canLayAll0
    rw [h x q.1, canAll_map h xs q.2]; rfl
theorem eqvAll_map {py : α → PyData} {eqb : α → α → Bool} (h : ∀ a b, PyData.eqv (py a) (py b) = eqb a b) : ∀ xs ys : List α, PyData.eqvAll (xs.map py) (ys.map py) = lEqb eqb xs ys
  | [], [] => by simp [PyData.eqvAll, lEqb]
  | [], _ :: _ => by simp [PyData.eqvAll, lEqb]
  | _ :: _, [] => by simp [PyData.eqvAll, lEqb]
  | x :: xs, y :: ys => by
    show PyData.eqvAll (py x :: xs.map py) (py y :: ys.map py) = (eqb x y && lEqb eqb xs ys)
    unfold PyData.eqvAll
    rw [h x y, eqvAll_map h xs ys]
instance : EqV CV.int := ⟨.int, 0, fun _ => true, fun a b => decide (a = b), fun os d a h => by cases d with | zero => omega | succ d => rfl, fun _ => Nat.le_refl _, fun _ _ => rfl, fun a b => by simp only [PyData.eqv]; rw [Bool.beq_eq_decide_eq]⟩
instance : EqV CV.bl := ⟨.bool, 0, fun _ => true, fun a b => a == b, fun os d a h => by cases d with | zero => omega | succ d => rfl, fun _ => Nat.le_refl _, fun _ _ => rfl, fun a b => by simp only [PyData.eqv]⟩
instance : EqV eN := ⟨fun _ => .none, 0, fun _ => true, fun _ _ => true, fun os d a h => by cases d with | zero => omega | succ d => rfl, fun _ => Nat.le_refl _, fun _ _ => rfl, fun a b => by simp only [PyData.eqv]⟩
instance : EqV CV.str := ⟨fun s => .str (sOf s), 0, fun s => s.all fun c => decide (c < 0x110000), fun a b => decide (a = b), fun os d a h => by cases d with | zero => omega | succ d => rfl, fun _ => Nat.le_refl _, fun s h => by
    show PyData.canLay0 (.str (sOf s)) = true
    unfold PyData.canLay0
    show (sOf s).cps.all (fun c => decide (c < 0x110000)) = true
    rw [← Array.all_toList]
    exact h, fun a b => by
    simp only [PyData.eqv]
    rw [Bool.beq_eq_decide_eq]
    exact decide_eq_decide.mpr sOf_inj⟩
section
variable {e1 : α1 → CV} {e2 : α2 → CV} {e3 : α3 → CV} {e4 : α4 → CV} {e : α → CV}
instance [EqV e] : EqV (eT1 e) := ⟨fun a => .tuple [EqV.py e a], EqV.dep e + 1, fun a => EqV.can e a, fun a b => EqV.eqb e a b, fun os d a h => by
    cases d with
    | zero => omega
    | succ d =>
      show (pyL (toPy os d) [e a]).map PyData.tuple = _
      simp only [pyL, EqV.toPy (e := e) os d a (by omega)]
      rfl, fun a => by
    simp only [PyData.depth, PyData.depthAll]
    have := EqV.depth (e := e) a
    omega, fun a h => by
    simp only [PyData.canLay0, PyData.canLayAll0, EqV.ok (e := e) a h, Bool.and_self], fun a b => by
    simp only [PyData.eqv, PyData.eqvAll, EqV.eq (e := e), Bool.and_true]⟩
instance [EqV e1] [EqV e2] : EqV (eT2 e1 e2) := ⟨fun a => .tuple [EqV.py e1 a.1, EqV.py e2 a.2], max (EqV.dep e1) (EqV.dep e2) + 1, fun a => EqV.can e1 a.1 && EqV.can e2 a.2, fun a b => EqV.eqb e1 a.1 b.1 && EqV.eqb e2 a.2 b.2, fun os d a h => by
    cases d with
    | zero => omega
    | succ d =>
      show (pyL (toPy os d) [e1 a.1, e2 a.2]).map PyData.tuple = _
      simp only [pyL, EqV.toPy (e := e1) os d a.1 (by omega), EqV.toPy (e := e2) os d a.2 (by omega)]
      rfl, fun a => by
    simp only [PyData.depth, PyData.depthAll]
    have := EqV.depth (e := e1) a.1
    have := EqV.depth (e := e2) a.2
    omega, fun a h => by
    rw [Bool.and_eq_true] at h
    simp only [PyData.canLay0, PyData.canLayAll0, EqV.ok (e := e1) a.1 h.1, EqV.ok (e := e2) a.2 h.2, Bool.and_self], fun a b => by
    simp only [PyData.eqv, PyData.eqvAll, EqV.eq (e := e1), EqV.eq (e := e2), Bool.and_true]⟩
instance [EqV e1] [EqV e2] : EqV (eW2 e1 e2) := ⟨fun a => .tuple [EqV.py e1 a.1, EqV.py e2 a.2], max (EqV.dep e1) (EqV.dep e2) + 1, fun a => EqV.can e1 a.1 && EqV.can e2 a.2, fun a b => EqV.eqb e1 a.1 b.1 && EqV.eqb e2 a.2 b.2, fun os d a h => by
    cases d with
    | zero => omega
    | succ d =>
      show (pyL (toPy os d) [e1 a.1, e2 a.2]).map PyData.tuple = _
      simp only [pyL, EqV.toPy (e := e1) os d a.1 (by omega), EqV.toPy (e := e2) os d a.2 (by omega)]
      rfl, fun a => by
    simp only [PyData.depth, PyData.depthAll]
    have := EqV.depth (e := e1) a.1
    have := EqV.depth (e := e2) a.2
    omega, fun a h => by
    rw [Bool.and_eq_true] at h
    simp only [PyData.canLay0, PyData.canLayAll0, EqV.ok (e := e1) a.1 h.1, EqV.ok (e := e2) a.2 h.2, Bool.and_self], fun a b => by
    simp only [PyData.eqv, PyData.eqvAll, EqV.eq (e := e1), EqV.eq (e := e2), Bool.and_true]⟩
instance [EqV e1] [EqV e2] [EqV e3] : EqV (eT3 e1 e2 e3) := ⟨fun a => .tuple [EqV.py e1 a.1, EqV.py e2 a.2.1, EqV.py e3 a.2.2], max (EqV.dep e1) (max (EqV.dep e2) (EqV.dep e3)) + 1, fun a => EqV.can e1 a.1 && (EqV.can e2 a.2.1 && EqV.can e3 a.2.2), fun a b => EqV.eqb e1 a.1 b.1 && (EqV.eqb e2 a.2.1 b.2.1 && EqV.eqb e3 a.2.2 b.2.2), fun os d a h => by
    cases d with
    | zero => omega
    | succ d =>
      show (pyL (toPy os d) [e1 a.1, e2 a.2.1, e3 a.2.2]).map PyData.tuple = _
      simp only [pyL, EqV.toPy (e := e1) os d a.1 (by omega), EqV.toPy (e := e2) os d a.2.1 (by omega), EqV.toPy (e := e3) os d a.2.2 (by omega)]
      rfl, fun a => by
    simp only [PyData.depth, PyData.depthAll]
    have := EqV.depth (e := e1) a.1
    have := EqV.depth (e := e2) a.2.1
    have := EqV.depth (e := e3) a.2.2
    omega, fun a h => by
    rw [Bool.and_eq_true, Bool.and_eq_true] at h
    simp only [PyData.canLay0, PyData.canLayAll0, EqV.ok (e := e1) a.1 h.1, EqV.ok (e := e2) a.2.1 h.2.1, EqV.ok (e := e3) a.2.2 h.2.2, Bool.and_self], fun a b => by
    simp only [PyData.eqv, PyData.eqvAll, EqV.eq (e := e1), EqV.eq (e := e2), EqV.eq (e := e3), Bool.and_true]⟩
instance [EqV e] : EqV (eTs e) := ⟨fun xs => .tuple (xs.map (EqV.py e)), EqV.dep e + 1, fun xs => xs.all (EqV.can e), lEqb (EqV.eqb e), fun os d xs h => by
    cases d with
    | zero => omega
    | succ d =>
      show (pyL (toPy os d) (xs.map e)).map PyData.tuple = _
      rw [pyL_map (fun a => EqV.toPy os d a (by omega))]; rfl, fun xs => by
    simp only [PyData.depth]
    exact Nat.succ_le_succ (depthAll_map EqV.depth xs), fun xs h => by
    simp only [PyData.canLay0]
    exact canAll_map EqV.ok xs h, fun xs ys => by
    simp only [PyData.eqv]
    exact eqvAll_map EqV.eq xs ys⟩
instance [EqV e] : EqV (eWs e) := ⟨fun xs => .tuple (xs.map (EqV.py e)), EqV.dep e + 1, fun xs => xs.all (EqV.can e), lEqb (EqV.eqb e), fun os d xs h => by
    cases d with
    | zero => omega
    | succ d =>
      show (pyL (toPy os d) (xs.map e)).map PyData.tuple = _
      rw [pyL_map (fun a => EqV.toPy os d a (by omega))]; rfl, fun xs => by
    simp only [PyData.depth]
    exact Nat.succ_le_succ (depthAll_map EqV.depth xs), fun xs h => by
    simp only [PyData.canLay0]
    exact canAll_map EqV.ok xs h, fun xs ys => by
    simp only [PyData.eqv]
    exact eqvAll_map EqV.eq xs ys⟩
instance [EqV e] : EqV (eLs e) := ⟨fun xs => .list (xs.map (EqV.py e)), EqV.dep e + 1, fun xs => xs.all (EqV.can e), lEqb (EqV.eqb e), fun os d xs h => by
    cases d with
    | zero => omega
    | succ d =>
      show (pyL (toPy os d) (xs.map e)).map PyData.list = _
      rw [pyL_map (fun a => EqV.toPy os d a (by omega))]; rfl, fun xs => by
    simp only [PyData.depth]
    exact Nat.succ_le_succ (depthAll_map EqV.depth xs), fun xs h => by
    simp only [PyData.canLay0]
    exact canAll_map EqV.ok xs h, fun xs ys => by
    simp only [PyData.eqv]
    exact eqvAll_map EqV.eq xs ys⟩
end
/-- two values that are not both scalars -/
def eqP (e : α → CV) [EqV e] (neg : Bool) (a b : α) : An Bool := grd (EqV.can e a && EqV.can e b) (.ok (ngB neg (EqV.eqb e a b)))
theorem o_eqD {e : α → CV} [E : EqV e] {neg : Bool} (hs : ∀ a b, eqS (e a) (e b) = none := by intro _ _; rfl) (hd : EqV.dep e < 12 := by decide) : Op os (vEq neg) (Is e) (Is e) rB (eqP e neg) := fun a b va vb fl t ea eb => by
  cases ea; cases eb
  unfold eqP
  cases hc : (EqV.can e a && EqV.can e b) with
  | false => trivial
  | true =>
    rw [Bool.and_eq_true] at hc
    refine ⟨.bl (ngB neg (EqV.eqb e a b)), ?_, rfl⟩
    unfold vEq eqC
    rw [hs a b]
    simp only []
    unfold eqD
    rw [EqV.toPy _ 12 a hd, EqV.toPy _ 12 b hd]
    have d1 := EqV.depth (e := e) a
    have d2 := EqV.depth (e := e) b
    have s1 : SeqAt.shaped (EqV.py e a) = true := by
      unfold SeqAt.shaped
      rw [EqV.ok a hc.1, decide_eq_true (by omega)]; rfl
    have s2 : SeqAt.shaped (EqV.py e b) = true := by
      unfold SeqAt.shaped
      rw [EqV.ok b hc.2, decide_eq_true (by omega)]; rfl
    simp only [s1, s2, Bool.and_self, if_true, EqV.eq]
    cases neg <;> rfl
theorem o_isN {e : α → CV} {neg : Bool} : Op os (vIsN neg) (Is (eO e)) (Is eN) rB (fun a _ => .ok (ngB neg (match a with | none => true | some _ => false))) → True := fun _ => trivial

/-! ### membership -/
class Flat (e : α → CV) [DecidableEq α] : Prop where
  flat : ∀ a, flatC (e a) = true
  eq : ∀ a b, eqF (e a) (e b) = decide (a = b)
instance : Flat CV.int := ⟨fun _ => rfl, fun _ _ => rfl⟩
instance : Flat CV.str := ⟨fun _ => rfl, fun a b => eqN_dec a b⟩
theorem all_flatM [DecidableEq α] {e : α → CV} [Flat e] : ∀ xs : List α, (xs.map e).all flatC = true
  | [] => rfl
  | x :: xs => by rw [List.map_cons, List.all_cons, Flat.flat x, all_flatM xs]; rfl
theorem any_flatM [DecidableEq α] {e : α → CV} [Flat e] (a : α) : ∀ xs : List α, ((xs.map e).any fun y => eqF y (e a)) = xs.any fun y => decide (y = a)
  | [] => rfl
  | x :: xs => by rw [List.map_cons, List.any_cons, List.any_cons, Flat.eq x a, any_flatM a xs]
def inF [DecidableEq α] (neg : Bool) (a : α) (xs : List α) : Bool := ngB neg (xs.any fun y => decide (y = a))
theorem vOr_ok {f g : CV → CV → Hc → R CV} {a b : CV} {hp hp' : Hc} {v : CV} (h : f a b hp = .ok v hp') : vOr f g a b hp = .ok v hp' := by unfold vOr; rw [h]
theorem vOr_st {f g : CV → CV → Hc → R CV} {a b : CV} {hp : Hc} (h : f a b hp = .stuck) : vOr f g a b hp = g a b hp := by unfold vOr; rw [h]
theorem o_inF [DecidableEq α] {e : α → CV} [Flat e] {neg : Bool} {tabs : List WTab} : Op os (vInY tabs neg) (Is e) (Sq os e) rB (fun a xs => .ok (inF neg a xs)) := fun a xs va vb fl t ea eb => by
  cases ea
  refine ⟨.bl (inF neg a xs), vOr_ok (vOr_ok ?_), rfl⟩
  show vInS neg (e a) vb _ = _
  unfold vInS
  rw [eb.1 fl t]
  simp only [Flat.flat, all_flatM, Bool.and_self, if_true, any_flatM]
  cases neg <;> rfl
/-! ### dicts -/
abbrev kEqT (t : Bool) : CV → CV → Bool := cond t tEq kEq
class Ky (t : outParam Bool) (e : α → CV) [DecidableEq α] : Prop where
  kf : t = false → ∀ a, (keyC (e a)).isSome = true
  kt : t = true → ∀ a, (keyT (e a)).isSome = true
  eq : ∀ a b, kEqT t (e a) (e b) = decide (a = b)
instance : Ky false CV.int := ⟨fun _ _ => rfl, (fun h => by cases h), fun _ _ => rfl⟩
instance : Ky false CV.str := ⟨fun _ _ => rfl, (fun h => by cases h), fun _ _ => rfl⟩
class KyS (e : α → CV) [DecidableEq α] : Prop where
  k : ∀ a, ∃ q, keyC (e a) = some q
  eq : ∀ a b, kEq (e a) (e b) = decide (a = b)
instance : KyS CV.int := ⟨fun _ => ⟨_, rfl⟩, fun _ _ => rfl⟩
instance : KyS CV.str := ⟨fun _ => ⟨_, rfl⟩, fun _ _ => rfl⟩
instance [DecidableEq α1] [DecidableEq α2] {e1 : α1 → CV} {e2 : α2 → CV} [KyS e1] [KyS e2] : Ky true (eT2 e1 e2) := ⟨(fun h => by cases h), fun _ a => by
    obtain ⟨q1, h1⟩ := KyS.k (e := e1) a.1
    obtain ⟨q2, h2⟩ := KyS.k (e := e2) a.2
    show (keysC [e1 a.1, e2 a.2]).isSome = true
    simp only [keysC, h1, h2]
    rfl, fun a b => by
    show (kEq (e1 a.1) (e1 b.1) && (kEq (e2 a.2) (e2 b.2) && true)) = _
    rw [KyS.eq, KyS.eq, Bool.and_true]
    obtain ⟨a1, a2⟩ := a
    obtain ⟨b1, b2⟩ := b
    by_cases h1 : a1 = b1
    · by_cases h2 : a2 = b2 <;> simp [h1, h2]
    · simp [h1]⟩
def nlook [DecidableEq κ] (k : κ) : List (κ × β) → Option β
  | [] => none
  | (a, x) :: r => if a = k then some x else nlook k r
def nrepl [DecidableEq κ] (k : κ) (v : β) : List (κ × β) → List (κ × β)
  | [] => []
  | (a, x) :: r => (if a = k then (a, v) else (a, x)) :: nrepl k v r
def nput [DecidableEq κ] (k : κ) (v : β) (kvs : List (κ × β)) : List (κ × β) := match nlook k kvs with
  | some _ => nrepl k v kvs
  | none => kvs ++ [(k, v)]
abbrev eKV (ek : κ → CV) (ev : β → CV) : κ × β → CV × CV := fun p => (ek p.1, ev p.2)
theorem look_map [DecidableEq κ] {t : Bool} {ek : κ → CV} {ev : β → CV} [Ky t ek] (k : κ) : ∀ kvs : List (κ × β), lookD (kEqT t) (ek k) (kvs.map (eKV ek ev)) = (nlook k kvs).map ev
  | [] => rfl
  | (a, x) :: r => by
    show (if kEqT t (ek a) (ek k) = true then some (ev x) else lookD (kEqT t) (ek k) (r.map (eKV ek ev))) = _
    rw [Ky.eq (t := t) a k, look_map k r]
    show _ = (if a = k then some x else nlook k r).map ev
    by_cases h : a = k <;> simp [h]
theorem repl_map [DecidableEq κ] {t : Bool} {ek : κ → CV} {ev : β → CV} [Ky t ek] (k : κ) (v : β) : ∀ kvs : List (κ × β), replD (kEqT t) (ek k) (ev v) (kvs.map (eKV ek ev)) = (nrepl k v kvs).map (eKV ek ev)
  | [] => rfl
  | (a, x) :: r => by
    show ((if kEqT t (ek a) (ek k) = true then (ek a, ev v) else (ek a, ev x)) :: replD (kEqT t) (ek k) (ev v) (r.map (eKV ek ev))) = _
    rw [Ky.eq (t := t) a k, repl_map k v r]
    show _ = List.map (eKV ek ev) ((if a = k then (a, v) else (a, x)) :: nrepl k v r)
    by_cases h : a = k <;> simp [h, eKV]
theorem put_map [DecidableEq κ] {t : Bool} {ek : κ → CV} {ev : β → CV} [Ky t ek] (k : κ) (v : β) (kvs : List (κ × β)) : putD (kEqT t) (ek k) (ev v) (kvs.map (eKV ek ev)) = (nput k v kvs).map (eKV ek ev) := by
  unfold putD nput
  rw [look_map k kvs]
  cases nlook k kvs with
  | none => simp [eKV]
  | some x => exact repl_map k v kvs
/-- v reads as a dict -/
def Dq (os : List CO) (t : Bool) (ek : κ → CV) (ev : β → CV) (kvs : List (κ × β)) (v : CV) : Prop := (∀ fl s, dOf ⟨fl, os ++ s⟩ v = some (t, kvs.map (eKV ek ev)) ∧ seqItems ⟨fl, os ++ s⟩ v = none) ∧ ∀ s, v ≠ .str s
theorem x_dct {t : Bool} {ek : κ → CV} {ev : β → CV} {m : M CV} {p : An (List (κ × β))} (h : Ex sp os m (Is (eDt t ek ev)) p) : Ex sp os m (Dq os t ek ev) p := h.imp fun kvs v e => by
  cases e
  exact ⟨fun fl s => ⟨rfl, rfl⟩, fun s w => by cases w⟩
theorem x_dref {t : Bool} {ek : κ → CV} {ev : β → CV} {i n : Nat} {kvs : List (κ × β)} (h : sp[i]? = some (some (.ref n)) := by rfl) (ho : os[n]? = some (.dic t (kvs.map (eKV ek ev))) := by rfl) : Ex sp os (eVar i) (Dq os t ek ev) (.ok kvs) := fun env fl u l => by
  have z := l.get h
  unfold eVar
  rw [z]
  refine ⟨_, rfl, fun fl s => ⟨?_, ?_⟩, fun _ w => by cases w⟩
  · show (match (os ++ s)[n]? with | some (.dic t kvs) => some (t, kvs) | _ => none) = _
    rw [get_app ho]
  · show (match (os ++ s)[n]? with | some (.lst xs) => some xs | _ => none) = _
    rw [get_app ho]
theorem getD_map [DecidableEq κ] {t : Bool} {ek : κ → CV} {ev : β → CV} [Ky t ek] {kvs : List (κ × β)} {v : CV} {hp : Hc} (h : dOf hp v = some (t, kvs.map (eKV ek ev))) (k : κ) : getD? hp v (ek k) = some ((nlook k kvs).map ev) := by
  unfold getD?
  rw [h]
  cases t with
  | false =>
    simp only [Ky.kf (t := false) (e := ek) rfl k, if_true]
    exact congrArg some (look_map (t := false) k kvs)
  | true =>
    simp only [Ky.kt (t := true) (e := ek) rfl k, if_true]
    exact congrArg some (look_map (t := true) k kvs)
theorem o_inK [DecidableEq κ] {t : Bool} {ek : κ → CV} {ev : β → CV} [Ky t ek] {neg : Bool} {tabs : List WTab} : Op os (vInY tabs neg) (Is ek) (Dq os t ek ev) rB (fun k kvs => .ok (ngB neg (nlook k kvs).isSome)) := fun k kvs va vb fl s ea eb => by
  cases ea
  obtain ⟨h1, h2⟩ := eb.1 fl s
  refine ⟨.bl (ngB neg (nlook k kvs).isSome), vOr_ok ?_, rfl⟩
  unfold vInX
  rw [vOr_st (by show vInS neg (ek k) vb _ = _; unfold vInS; rw [h2])]
  refine vOr_ok ?_
  unfold vDIn
  rw [getD_map h1 k]
  simp only [Option.isSome_map]
  cases neg <;> rfl
theorem o_getK [DecidableEq κ] {t : Bool} {ek : κ → CV} {ev : β → CV} [Ky t ek] {tabs : List WTab} : Op os (vIxX tabs) (Dq os t ek ev) (Is ek) (Is ev) (fun kvs k => .opt (nlook k kvs)) := fun kvs k va vb fl s ea eb => by
  cases eb
  obtain ⟨h1, h2⟩ := ea.1 fl s
  unfold vIxX
  have e1 : vIx va (ek k) ⟨fl, os ++ s⟩ = .stuck := by
    unfold vIx
    split
    · exact absurd rfl (ea.2 _)
    · rw [h2]
    · rfl
  rw [vOr_st e1]
  have e2 : vDGet va (ek k) ⟨fl, os ++ s⟩ = match (nlook k kvs).map ev with | some v => .ok v ⟨fl, os ++ s⟩ | none => .stuck := by
    unfold vDGet
    rw [getD_map h1 k]
    cases nlook k kvs <;> rfl
  show Gi (.opt (nlook k kvs)) _ _ _
  revert e2
  cases nlook k kvs with
  | none => intro _; trivial
  | some x => intro e2; exact ⟨_, vOr_ok e2, rfl⟩
theorem n_lenD {t : Bool} {ek : κ → CV} {ev : β → CV} {m : M CV} {p : An (List (κ × β))} (h : Ex sp os m (Dq os t ek ev) p) : Ex sp os (eBi (bOr bLen bLenD) [m]) rI (p.bind fun kvs => .ok (kvs.length : Int)) := n_bi1 h fun a v fl s z => by
  obtain ⟨h1, h2⟩ := z.1 fl s
  refine ⟨.int a.length, ?_, rfl⟩
  have e1 : bLen [v] ⟨fl, os ++ s⟩ = .stuck := by
    unfold bLen
    split
    · rename_i w; cases w; exact absurd rfl (z.2 _)
    · rename_i w; cases w; rw [h2]
    · rfl
  unfold bOr
  rw [e1]
  show bLenD [v] _ = _
  unfold bLenD
  simp only [h1, List.length_map]
/-! ### written dicts -/
abbrev eWt (ev : β → CV) : List (List Nat × β) → WTab := fun tab => tab.map fun p => (p.1, ev p.2)
theorem lookW_map {ev : β → CV} (z : List Nat) : ∀ tab : List (List Nat × β), lookW z (eWt ev tab) = (nlook z tab).map ev
  | [] => rfl
  | (k, v) :: r => by
    show (if k = z then some (ev v) else lookW z (eWt ev r)) = _
    rw [lookW_map z r]
    show _ = (if k = z then some v else nlook z r).map ev
    by_cases h : k = z <;> simp [h]
theorem lookWd_at {tabs : List WTab} {i : Nat} {ev : β → CV} {tab : List (List Nat × β)} (ht : tabs[i]? = some (eWt ev tab)) (z : List Nat) : lookWd tabs (.str z) (.wdc i) = some ((nlook z tab).map ev) := by
  show (match tabs[i]? with | some tab => some (lookW z tab) | none => none) = _
  rw [ht]
  show some (lookW z (eWt ev tab)) = _
  rw [lookW_map]
theorem n_inW {neg : Bool} {tabs : List WTab} {i : Nat} {ev : β → CV} {m : M CV} {p : An (List Nat)} (h : Ex sp os m rS p) (tab : List (List Nat × β)) (ht : tabs[i]? = some (eWt ev tab) := by rfl) : Ex sp os (e2 (vInY tabs neg) m (eC (.wdc i))) rB (p.bind fun z => .ok (ngB neg (nlook z tab).isSome)) := fun env fl t l =>
  (h env fl t l).bind fun z v e => by
    cases e
    refine ⟨.bl (ngB neg (nlook z tab).isSome), ?_, rfl⟩
    show vInY tabs neg (.str z) (.wdc i) ⟨fl, os ++ t⟩ = _
    refine vOr_ok ?_
    unfold vInX
    rw [vOr_st rfl, vOr_st rfl]
    unfold vWIn
    rw [lookWd_at ht]
    simp only [Option.isSome_map]
    cases neg <;> rfl
theorem n_getW {tabs : List WTab} {i : Nat} {ev : β → CV} {m : M CV} {p : An (List Nat)} (h : Ex sp os m rS p) (tab : List (List Nat × β)) (ht : tabs[i]? = some (eWt ev tab) := by rfl) : Ex sp os (e2 (vIxX tabs) (eC (.wdc i)) m) (Is ev) (p.bind fun z => .opt (nlook z tab)) := fun env fl t l =>
  (h env fl t l).bind fun z v e => by
    cases e
    show Gi _ _ _ (vIxX tabs (.wdc i) (.str z) ⟨fl, os ++ t⟩)
    unfold vIxX
    rw [vOr_st rfl, vOr_st rfl]
    unfold vWGet
    rw [lookWd_at ht]
    cases nlook z tab with
    | none => trivial
    | some x => exact ⟨_, rfl, rfl⟩
/-! ### deep membership -/
theorem o_inD {e : α → CV} [E : EqV e] {neg : Bool} {tabs : List WTab} (hf : ∀ a, flatC (e a) = false := by intro _; rfl) (hd : EqV.dep e + 1 < 12 := by decide) (hw : ∀ a i, lookWd tabs (e a) i = none := by intro _ _; rfl) :
    Op os (vInY tabs neg) (Is e) (Sq os e) rB (fun a xs => grd (EqV.can e a && xs.all (EqV.can e)) (.ok (ngB neg (xs.any fun z => EqV.eqb e z a)))) := fun a xs va vb fl t ea eb => by
  cases ea
  show Gi (grd _ _) _ _ _
  cases hc : (EqV.can e a && xs.all (EqV.can e)) with
  | false => trivial
  | true =>
    rw [Bool.and_eq_true] at hc
    refine ⟨.bl (ngB neg (xs.any fun z => EqV.eqb e z a)), ?_, rfl⟩
    have h1 := eb.1 fl t
    have e1 : vInX tabs neg (e a) vb ⟨fl, os ++ t⟩ = .stuck := by
      unfold vInX
      rw [vOr_st (by show vInS neg (e a) vb _ = _; unfold vInS; rw [h1]; simp only [hf, Bool.false_and]; rfl), vOr_st, vWIn, hw]
      unfold vDIn getD?
      have : dOf ⟨fl, os ++ t⟩ vb = none := by
        unfold seqItems at h1
        unfold dOf
        split at h1 <;> first | rfl | skip
        · split at h1
          · rename_i w; simp only [w]
          · cases h1
        · cases h1
      rw [this]
    unfold vInY
    rw [vOr_st e1]
    unfold vInD inD
    rw [EqV.toPy _ 12 a (by omega)]
    have e2 : (toPy (os ++ t) 12 vb).bind rowPy = some (xs.map (EqV.py e)) := by
      have pm : pyL (toPy (os ++ t) 11) (xs.map e) = some (xs.map (EqV.py e)) := pyL_map (fun a => EqV.toPy _ 11 a (by omega)) xs
      unfold seqItems at h1
      split at h1
      · cases h1; show ((pyL (toPy (os ++ t) 11) (xs.map e)).map PyData.tuple).bind rowPy = _; rw [pm]; rfl
      · cases h1; show ((pyL (toPy (os ++ t) 11) (xs.map e)).map PyData.tuple).bind rowPy = _; rw [pm]; rfl
      · cases h1; show ((pyL (toPy (os ++ t) 11) (xs.map e)).map PyData.list).bind rowPy = _; rw [pm]; rfl
      · split at h1
        · rename_i w
          cases h1
          unfold toPy
          simp only [w, pm]
          rfl
        · cases h1
      · cases h1
    have e3 : (toPy (⟨fl, os ++ t⟩ : Hc).os 12 vb).bind rowPy = some (xs.map (EqV.py e)) := e2
    rw [e3]
    have d1 := EqV.depth (e := e) a
    have s1 : SeqAt.shaped (EqV.py e a) = true := by
      unfold SeqAt.shaped
      rw [EqV.ok a hc.1, decide_eq_true (by omega)]; rfl
    have s2 : SeqAt.shaped (.list (xs.map (EqV.py e))) = true := by
      unfold SeqAt.shaped
      have := depthAll_map (EqV.depth (e := e)) xs
      simp only [PyData.canLay0, PyData.depth, canAll_map EqV.ok xs hc.2, Bool.true_and]
      exact decide_eq_true (by omega)
    simp only [s1, s2, Bool.and_self, if_true, List.any_map]
    have e4 : (xs.any ((fun z => PyData.eqv z (EqV.py e a)) ∘ EqV.py e)) = xs.any fun z => EqV.eqb e z a := by
      congr 1; funext z; exact EqV.eq z a
    rw [e4]
    cases neg <;> rfl
end
end Bl

/-! Native layer, part D: comprehensions, any/all, calls. -/
namespace Bl
open PySem PySem.Spec PyProof.Rows L2
section
variable {α β γ δ κ : Type} {sp : En} {os : List CO} {fl : Nat} {hp : Hc}
theorem R.bind_assoc {α β γ : Type} (r : R α) (f : α → Hc → R β) (g : β → Hc → R γ) : (r.bind f).bind g = r.bind fun a hp => (f a hp).bind g := by cases r <;> rfl
/-! ### arguments -/
theorem av_nil {k : List CV → Hc → R δ} {q : An γ} {rel : γ → δ → Prop} (h : ∀ fl t, Gi q rel ⟨fl, os ++ t⟩ (k [] ⟨fl, os ++ t⟩)) : Ex sp os (fun env hp => (evA [] env hp).bind k) rel q := fun env fl t l => h fl t
theorem av_cons {k : List CV → Hc → R δ} {rel : γ → δ → Prop} {e : α → CV} {m : M CV} {ms : List (M CV)} {p : An α} {q : α → An γ} (h : Ex sp os m (Is e) p) (hs : ∀ a, Ex sp os (fun env hp => (evA ms env hp).bind fun vs hp => k (e a :: vs) hp) rel (q a)) : Ex sp os (fun env hp => (evA (m :: ms) env hp).bind k) rel (p.bind q) := fun env fl t l => by
  show Gi _ _ _ (R.bind (R.bind _ _) _)
  rw [R.bind_assoc]
  refine Gi.bind (h env fl t l) fun a v z => ?_
  subst z
  have w := hs a env fl t l
  show Gi _ _ _ (R.bind (R.bind _ _) _)
  rw [R.bind_assoc]
  exact w
theorem av_consP {k : List CV → Hc → R δ} {rel : γ → δ → Prop} {e : α → CV} {m : M CV} {ms : List (M CV)} {x : α} {q : An γ} (h : Ex sp os m (Is e) (.ok x)) (hs : Ex sp os (fun env hp => (evA ms env hp).bind fun vs hp => k (e x :: vs) hp) rel q) : Ex sp os (fun env hp => (evA (m :: ms) env hp).bind k) rel q := fun env fl t l => by
  show Gi _ _ _ (R.bind (R.bind _ _) _)
  rw [R.bind_assoc]
  obtain ⟨v, e1, z⟩ := h env fl t l
  subst z
  rw [e1]
  have w := hs env fl t l
  show Gi _ _ _ (R.bind (R.bind _ _) _)
  rw [R.bind_assoc]
  exact w
theorem n_call {f : List CV → Hc → R CV} {ms : List (M CV)} {rel : γ → CV → Prop} {q : An γ} (h : Ex sp os (fun env hp => (evA ms env hp).bind f) rel q) : Ex sp os (eBi f ms) rel q := h
theorem n_call0 {f : Fn} {rel : γ → CV → Prop} {q : An γ} (h : ∀ hp, Gi q rel hp (f [] hp)) : Ex sp os (eCall0 f) rel q := fun env fl t l => h _
/-- the object's class is known -/
theorem n_meth {c : Nat} {f : Fn} {mo : M CV} {ms : List (M CV)} {enc : α → CV} {p : An α} {rel : γ → CV → Prop} {q : α → An γ} (h : Ex sp os mo (Is enc) p) (hs : ∀ a, Ex sp os (fun env hp => (evA ms env hp).bind fun as hp => f (enc a :: as) hp) rel (q a)) (hx : ∀ a hp, ∃ fs, fldsOf hp (enc a) = some (c, fs) := by intro _ _; exact ⟨_, rfl⟩) : Ex sp os (eMeth c f mo ms) rel (p.bind q) := fun env fl t l =>
  (h env fl t l).bind fun a v z => by
    subst z
    obtain ⟨fs, e1⟩ := hx a ⟨fl, os ++ t⟩
    rw [e1]
    simp only [Nat.beq_refl, if_true]
    exact hs a env fl t l
theorem n_methP {c : Nat} {f : Fn} {mo : M CV} {ms : List (M CV)} {enc : α → CV} {a : α} {rel : γ → CV → Prop} {q : An γ} (h : Ex sp os mo (Is enc) (.ok a)) (hs : Ex sp os (fun env hp => (evA ms env hp).bind fun as hp => f (enc a :: as) hp) rel q) (hx : ∀ hp, ∃ fs, fldsOf hp (enc a) = some (c, fs) := by intro _; exact ⟨_, rfl⟩) : Ex sp os (eMeth c f mo ms) rel q := fun env fl t l => by
  obtain ⟨v, e0, z⟩ := h env fl t l
  subst z
  obtain ⟨fs, e1⟩ := hx ⟨fl, os ++ t⟩
  unfold eMeth
  rw [e0]
  simp only [R.bind, e1, Nat.beq_refl, if_true]
  exact hs env fl t l
theorem n_meth0 {c : Nat} {f : Fn} {mo : M CV} {enc : α → CV} {p : An α} {rel : γ → CV → Prop} {q : α → An γ} (h : Ex sp os mo (Is enc) p) (hs : ∀ a hp, Gi (q a) rel hp (f [enc a] hp)) (hx : ∀ a hp, ∃ fs, fldsOf hp (enc a) = some (c, fs) := by intro _ _; exact ⟨_, rfl⟩) : Ex sp os (eMeth0 c f mo) rel (p.bind q) := fun env fl t l =>
  (h env fl t l).bind fun a v z => by
    subst z
    obtain ⟨fs, e1⟩ := hx a ⟨fl, os ++ t⟩
    rw [e1]
    simp only [Nat.beq_refl, if_true]
    exact hs a _
theorem n_meth0P {c : Nat} {f : Fn} {mo : M CV} {enc : α → CV} {a : α} {rel : γ → CV → Prop} {q : An γ} (h : Ex sp os mo (Is enc) (.ok a)) (hs : ∀ hp, Gi q rel hp (f [enc a] hp)) (hx : ∀ hp, ∃ fs, fldsOf hp (enc a) = some (c, fs) := by intro _; exact ⟨_, rfl⟩) : Ex sp os (eMeth0 c f mo) rel q := fun env fl t l => by
  obtain ⟨v, e0, z⟩ := h env fl t l
  subst z
  obtain ⟨fs, e1⟩ := hx ⟨fl, os ++ t⟩
  unfold eMeth0
  rw [e0]
  simp only [R.bind, e1, Nat.beq_refl, if_true]
  exact hs _
theorem n_e2P {f : CV → CV → Hc → R CV} {ra : α → CV → Prop} {rb : β → CV → Prop} {rc : γ → CV → Prop} {op : α → β → An γ} {ma mb : M CV} {x : α} {y : β} (o : Op os f ra rb rc op) (ha : Ex sp os ma ra (.ok x)) (hb : Ex sp os mb rb (.ok y)) : Ex sp os (e2 f ma mb) rc (op x y) := n_e2 o ha hb
/-! ### making -/
/-- what making answers: the object's fields in the end -/
def Mkd (c : Nat) (f : Fn) (args : List CV) (enc : γ → CV) (p : An γ) : Prop := ∀ (fl : Nat) (o : List CO), match p with
  | .ok x => ∃ fs, enc x = .ins c fs ∧ limF 0 fs = true ∧ f (.ref o.length :: args) ⟨fl, o ++ [.ins c []]⟩ = .ok .non ⟨fl, o ++ [.ins c fs]⟩
  | .exc d fs => ∃ o', f (.ref o.length :: args) ⟨fl, o ++ [.ins c []]⟩ = .exc d fs ⟨fl, o ++ [o']⟩
  | .stuck => True
theorem mkI_gi {c : Nat} {f : Fn} {args : List CV} {enc : γ → CV} {p : An γ} (h : Mkd c f args enc p) {m : M CV} {env : En} {o : List CO} (hm : ∀ fl, m env ⟨fl, o⟩ = mkI c f args ⟨fl, o⟩) (fl : Nat) : Gi p (Is enc) ⟨fl, o⟩ (scopM m env ⟨fl, o⟩) := by
  have z := h o.length o
  cases p with
  | stuck => trivial
  | exc d fs =>
    obtain ⟨o', e⟩ := z
    refine scop_exc (t' := [o']) (fl' := o.length) ?_
    rw [hm]
    unfold mkI
    show (match f (.ref o.length :: args) ⟨o.length, o ++ [.ins c []]⟩ with | .ok v hp' => _ | .exc c fs hp' => _ | .stuck => _) = _
    rw [e]
  | ok x =>
    obtain ⟨fs, e1, l, e⟩ := z
    refine ⟨_, scop_ok (t' := [.ins c fs]) (fl' := o.length) (v := .ref o.length) (w := .ins c fs) ?_ ?_, e1.symm⟩
    · rw [hm]
      unfold mkI
      show (match f (.ref o.length :: args) ⟨o.length, o ++ [.ins c []]⟩ with | .ok v hp' => _ | .exc c fs hp' => _ | .stuck => _) = _
      rw [e]
    · refine frzV_ins (Nat.le_refl _) ?_ l
      rw [List.getElem?_append_right (Nat.le_refl _), Nat.sub_self]
      rfl
/-! ### targets -/
def TgP (tg : Tgt) (v : CV) (sp sp' : En) : Prop := ∀ env, LeP sp env → ∃ env', tg.f v env = some env' ∧ LeP sp' env'
def TgsP (tg : Tgts) (vs : List CV) (sp sp' : En) : Prop := ∀ env, LeP sp env → ∃ env', tg.f vs env = some env' ∧ LeP sp' env'
theorem tg_nm {i : Nat} {v : CV} {sp : En} : TgP (gNm i) v sp (sp.set i (some v)) := fun env l => ⟨_, rfl, l.set i (some v)⟩
theorem tg_tp {n : Nat} {u : Tgts} {v : CV} {vs : List CV} {sp sp' : En} (hs : TgsP u vs sp sp') (h : tupItems v = some vs := by rfl) (hl : vs.length = n := by rfl) : TgP (gTp n u) v sp sp' := fun env l => by
  obtain ⟨env', e, l'⟩ := hs env l
  refine ⟨env', ?_, l'⟩
  show (match tupItems v with | some xs => if xs.length = n then u.f xs env else none | none => none) = _
  rw [h]
  simp only [hl, if_true]
  exact e
theorem tgs_nil {sp : En} : TgsP gsNil [] sp sp := fun env l => ⟨env, rfl, l⟩
theorem tgs_cons {t : Tgt} {u : Tgts} {v : CV} {r : List CV} {sp sp1 sp2 : En} (h : TgP t v sp sp1) (hs : TgsP u r sp1 sp2) : TgsP (gsCons t u) (v :: r) sp sp2 := fun env l => by
  obtain ⟨env1, e1, l1⟩ := h env l
  obtain ⟨env2, e2, l2⟩ := hs env1 l1
  refine ⟨env2, ?_, l2⟩
  show (match t.f v env with | some env' => u.f r env' | none => none) = _
  rw [e1]; exact e2
/-! ### comprehensions -/
def compA (c : α → An Bool) (g : α → An β) : List α → An (List β)
  | [] => .ok []
  | x :: r => match c x with
    | .ok true => match g x with
      | .ok y => match compA c g r with
        | .ok ys => .ok (y :: ys)
        | _ => .stuck
      | _ => .stuck
    | .ok false => compA c g r
    | _ => .stuck
def okL (ys : List α) : An (List α) := grd (okLen ys.length) (.ok ys)
theorem compA_pure (c : α → Bool) (g : α → β) : ∀ xs : List α, compA (fun x => .ok (c x)) (fun x => .ok (g x)) xs = .ok ((xs.filter c).map g)
  | [] => rfl
  | x :: r => by
    unfold compA
    rw [compA_pure c g r, List.filter_cons]
    cases c x <;> rfl
theorem compA_map (g : α → β) : ∀ xs : List α, compA (fun _ => .ok true) (fun x => .ok (g x)) xs = .ok (xs.map g)
  | [] => rfl
  | x :: r => by
    unfold compA
    rw [compA_map g r]; rfl
theorem wk_at {e : α → CV} {xs : List α} {it : ITc} (w : Wk e xs it) {pre r : List α} (hx : xs = pre ++ r) (hp : Hc) : it.next pre.length hp = some (r.map e)[0]? := by
  rw [w.2 pre.length hp (by rw [hx, List.length_append]; omega), hx, List.map_append, List.getElem?_append_right (by simp)]
  simp
theorem comp_run {e : α → CV} {eb : β → CV} {xs : List α} {it : ITc} (w : Wk e xs it) {tg : Tgt} {tests : M Bool} {elt : M CV} {sp : En} {spx : α → En} {c : α → An Bool} {g : α → An β} (htg : ∀ x, TgP tg (e x) sp (spx x)) (hc : ∀ x, Ex (spx x) os tests rT (c x)) (hg : ∀ x, Ex (spx x) os elt (Is eb) (g x))
    {env : En} (l : LeP sp env) {fl : Nat} {o t : List CO} (ho : o = os ++ t) (hfl : fl ≤ o.length) :
    ∀ (r pre : List α) (acc : List CV) (ys : List β) (n : Nat), xs = pre ++ r → compA c g r = .ok ys → r.length + 1 ≤ n → acc.length + ys.length ≤ 16777216 →
      compN it.next tg tests elt env o.length n pre.length ⟨fl, o ++ [.lst acc]⟩ = some ⟨fl, o ++ [.lst (acc ++ ys.map eb)]⟩ := by
  intro r
  induction r with
  | nil =>
    intro pre acc ys n hx hy hn hl
    cases n with
    | zero => omega
    | succ n =>
      have e1 := wk_at w hx ⟨fl, o ++ [.lst acc]⟩
      unfold compN
      rw [e1]
      cases hy
      simp
  | cons x r ih =>
    intro pre acc ys n hx hy hn hl
    cases n with
    | zero => simp at hn
    | succ n =>
      have e1 := wk_at w hx ⟨fl, o ++ [.lst acc]⟩
      have hx' : xs = (pre ++ [x]) ++ r := by rw [hx]; simp
      have len' : (pre ++ [x]).length = pre.length + 1 := by simp
      obtain ⟨env1, t1, l1⟩ := htg x env l
      have eh : (⟨fl, o ++ [.lst acc]⟩ : Hc) = ⟨fl, os ++ (t ++ [.lst acc])⟩ := by rw [ho, List.append_assoc]
      have tc := hc x env1 fl (t ++ [.lst acc]) l1
      have tgv := hg x env1 fl (t ++ [.lst acc]) l1
      rw [← eh] at tc tgv
      unfold compN
      rw [e1]
      simp only [List.map_cons, List.getElem?_cons_zero, t1]
      unfold compA at hy
      cases hcx : c x with
      | exc _ _ => rw [hcx] at hy; cases hy
      | stuck => rw [hcx] at hy; cases hy
      | ok b =>
        rw [hcx] at hy tc
        obtain ⟨b', eb1, eb2⟩ := tc
        cases eb2
        rw [eb1]
        cases b with
        | false =>
          simp only [id, Bool.false_eq_true, if_false]
          have z := ih (pre ++ [x]) acc ys n hx' hy (by simp at hn; omega) hl
          rw [len'] at z
          exact z
        | true =>
          simp only [id, if_true]
          cases hgx : g x with
          | exc _ _ => rw [hgx] at hy; cases hy
          | stuck => rw [hgx] at hy; cases hy
          | ok y =>
            rw [hgx] at hy tgv
            obtain ⟨v, ev, ez⟩ := tgv
            cases ez
            rw [ev]
            cases hr : compA c g r with
            | exc _ _ => rw [hr] at hy; cases hy
            | stuck => rw [hr] at hy; cases hy
            | ok zs =>
              rw [hr] at hy
              cases hy
              have add : compAdd o.length (eb y) ⟨fl, o ++ [.lst acc]⟩ = some ⟨fl, o ++ [.lst (acc ++ [eb y])]⟩ := by
                unfold compAdd
                simp only [List.getElem?_append_right (Nat.le_refl o.length), Nat.sub_self, List.getElem?_cons_zero]
                have h1 : acc.length < 16777216 := by simp at hl; omega
                rw [if_pos (by rw [Bool.and_eq_true]; exact ⟨decide_eq_true h1, decide_eq_true hfl⟩)]
                unfold Hc.set
                simp [List.set_append_right]
              simp only [add]
              have z := ih (pre ++ [x]) (acc ++ [eb y]) zs n hx' hr (by simp at hn; omega) (by simp at hl ⊢; omega)
              rw [len'] at z
              rw [z]
              simp
theorem compA_exc {c : α → An Bool} {g : α → An β} {d : Nat} {fs : List (Nat × CV)} : ∀ xs : List α, compA c g xs ≠ .exc d fs
  | [], h => by cases h
  | x :: r, hy => by
    unfold compA at hy
    split at hy
    · split at hy
      · split at hy <;> cases hy
      · cases hy
    · exact compA_exc r hy
    · cases hy
theorem n_comp {e : α → CV} {eb : β → CV} [Fz eb] {mi : M ITc} {tg : Tgt} {tests : M Bool} {elt : M CV} {own : List Nat} {px : An (List α)} {spx : α → En} {c : α → An Bool} {g : α → An β}
    (hi : Ex sp os mi (Wk e) px) (htg : ∀ x, TgP tg (e x) (wipeE sp own) (spx x)) (hc : ∀ x, Ex (spx x) os tests rT (c x)) (hg : ∀ x, Ex (spx x) os elt (Is eb) (g x)) :
    Ex sp os (scopM (eComp mi tg tests elt own)) (Is (eLs eb)) (px.bind fun xs => (compA c g xs).bind okL) := fun env fl t l => by
  have z := hi env (os ++ t).length t l
  cases px with
  | stuck => trivial
  | exc d fs =>
    refine scop_exc (t' := []) (fl' := (os ++ t).length) ?_
    unfold eComp
    rw [show mi env ⟨(os ++ t).length, os ++ t⟩ = _ from z, List.append_nil]
    rfl
  | ok xs =>
    obtain ⟨it, e1, w⟩ := z
    show Gi ((compA c g xs).bind okL) _ _ _
    cases hy : compA c g xs with
    | stuck => trivial
    | exc d fs => exact absurd hy (compA_exc xs)
    | ok ys =>
      show Gi (okL ys) _ _ _
      unfold okL
      cases hl : okLen ys.length with
      | false => trivial
      | true =>
        have hl' : ys.length ≤ 16777216 := of_decide_eq_true hl
        have run := comp_run w htg hc hg (l.wipe own) (fl := (os ++ t).length) (o := os ++ t) (t := t) rfl (Nat.le_refl _) xs [] [] ys it.fuel rfl hy w.1 (by simpa using hl')
        refine ⟨_, scop_ok (t' := [.lst (ys.map eb)]) (fl' := (os ++ t).length) (v := .ref (os ++ t).length) (w := .lst (ys.map eb)) ?_ ?_, rfl⟩
        · unfold eComp
          rw [e1]
          show (match compN it.next tg tests elt (wipeE env own) (os ++ t).length it.fuel 0 ⟨(os ++ t).length, (os ++ t) ++ [.lst []]⟩ with | some hp' => R.ok (CV.ref (os ++ t).length) hp' | none => .stuck) = _
          rw [show (0 : Nat) = ([] : List α).length from rfl, run]
          rfl
        · refine frzV_lst (Nat.le_refl _) ?_ (fz_map eb ys)
          rw [List.getElem?_append_right (Nat.le_refl _), Nat.sub_self]
          rfl
theorem n_compP {e : α → CV} {eb : β → CV} [Fz eb] {mi : M ITc} {tg : Tgt} {tests : M Bool} {elt : M CV} {own : List Nat} {px : An (List α)} {spx : α → En} {c : α → Bool} {g : α → β}
    (hi : Ex sp os mi (Wk e) px) (htg : ∀ x, TgP tg (e x) (wipeE sp own) (spx x)) (hc : ∀ x, Ex (spx x) os tests rT (.ok (c x))) (hg : ∀ x, Ex (spx x) os elt (Is eb) (.ok (g x))) :
    Ex sp os (scopM (eComp mi tg tests elt own)) (Is (eLs eb)) (px.bind fun xs => okL ((xs.filter c).map g)) := by
  have z := n_comp hi htg hc hg
  simp only [compA_pure, An.ok_bind] at z
  exact z
theorem n_compM {e : α → CV} {eb : β → CV} [Fz eb] {mi : M ITc} {tg : Tgt} {elt : M CV} {own : List Nat} {px : An (List α)} {spx : α → En} {g : α → β}
    (hi : Ex sp os mi (Wk e) px) (htg : ∀ x, TgP tg (e x) (wipeE sp own) (spx x)) (hg : ∀ x, Ex (spx x) os elt (Is eb) (.ok (g x))) :
    Ex sp os (scopM (eComp mi tg tTrue elt own)) (Is (eLs eb)) (px.bind fun xs => okL (xs.map g)) := by
  have z := n_comp hi htg (fun x => n_tTrue) hg
  simp only [compA_map, An.ok_bind] at z
  exact z
/-! two generators -/
def compA2 (c : α → An Bool) (h : α → An (List β)) : List α → An (List β)
  | [] => .ok []
  | x :: r => match c x with
    | .ok true => match h x with
      | .ok ys => match compA2 c h r with
        | .ok zs => .ok (ys ++ zs)
        | _ => .stuck
      | _ => .stuck
    | .ok false => compA2 c h r
    | _ => .stuck
theorem compA2_pure (c : α → Bool) (h : α → List β) : ∀ xs : List α, compA2 (fun x => .ok (c x)) (fun x => .ok (h x)) xs = .ok ((xs.filter c).flatMap h)
  | [] => rfl
  | x :: r => by
    unfold compA2
    rw [compA2_pure c h r, List.filter_cons]
    cases c x <;> simp
theorem compA2_map (h : α → List β) : ∀ xs : List α, compA2 (fun _ => .ok true) (fun x => .ok (h x)) xs = .ok (xs.flatMap h)
  | [] => rfl
  | x :: r => by
    unfold compA2
    rw [compA2_map h r]; simp
theorem compA2_exc {c : α → An Bool} {g : α → An (List β)} {d : Nat} {fs : List (Nat × CV)} : ∀ xs : List α, compA2 c g xs ≠ .exc d fs
  | [], h => by cases h
  | x :: r, hy => by
    unfold compA2 at hy
    split at hy
    · split at hy
      · split at hy <;> cases hy
      · cases hy
    · exact compA2_exc r hy
    · cases hy
theorem comp2_run {e : α → CV} {e1 : γ → CV} {eb : β → CV} {xs : List α} {it : ITc} (w : Wk e xs it) {tg tg1 : Tgt} {tests tests1 : M Bool} {mi1 : M ITc} {elt : M CV} {vs1 : List Nat} {sp : En} {spx : α → En} {spy : α → γ → En} {c : α → An Bool} {px : α → An (List γ)} {c1 : α → γ → An Bool} {g : α → γ → An β}
    (htg : ∀ x, TgP tg (e x) sp (spx x)) (hc : ∀ x, Ex (spx x) os tests rT (c x)) (hi1 : ∀ x, Ex (spx x) os mi1 (Wk e1) (px x)) (htg1 : ∀ x y, TgP tg1 (e1 y) (wipeE (spx x) vs1) (spy x y)) (hc1 : ∀ x y, Ex (spy x y) os tests1 rT (c1 x y)) (hg : ∀ x y, Ex (spy x y) os elt (Is eb) (g x y))
    {env : En} (l : LeP sp env) {fl : Nat} {o t : List CO} (ho : o = os ++ t) (hfl : fl ≤ o.length) :
    ∀ (r pre : List α) (acc : List CV) (ys : List β) (n : Nat), xs = pre ++ r → compA2 c (fun x => (px x).bind fun zs => compA (c1 x) (g x) zs) r = .ok ys → r.length + 1 ≤ n → acc.length + ys.length ≤ 16777216 →
      compN2 it.next tg tests mi1 tg1 tests1 elt vs1 env o.length n pre.length ⟨fl, o ++ [.lst acc]⟩ = some ⟨fl, o ++ [.lst (acc ++ ys.map eb)]⟩ := by
  intro r
  induction r with
  | nil =>
    intro pre acc ys n hx hy hn hl
    cases n with
    | zero => omega
    | succ n =>
      have q := wk_at w hx ⟨fl, o ++ [.lst acc]⟩
      unfold compN2
      rw [q]
      cases hy
      simp
  | cons x r ih =>
    intro pre acc ys n hx hy hn hl
    cases n with
    | zero => simp at hn
    | succ n =>
      have q := wk_at w hx ⟨fl, o ++ [.lst acc]⟩
      have hx' : xs = (pre ++ [x]) ++ r := by rw [hx]; simp
      have len' : (pre ++ [x]).length = pre.length + 1 := by simp
      obtain ⟨env1, t1, l1⟩ := htg x env l
      have eh : (⟨fl, o ++ [.lst acc]⟩ : Hc) = ⟨fl, os ++ (t ++ [.lst acc])⟩ := by rw [ho, List.append_assoc]
      have tc := hc x env1 fl (t ++ [.lst acc]) l1
      have ti := hi1 x env1 fl (t ++ [.lst acc]) l1
      rw [← eh] at tc ti
      unfold compN2
      rw [q]
      simp only [List.map_cons, List.getElem?_cons_zero, t1]
      unfold compA2 at hy
      cases hcx : c x with
      | exc _ _ => rw [hcx] at hy; cases hy
      | stuck => rw [hcx] at hy; cases hy
      | ok b =>
        rw [hcx] at hy tc
        obtain ⟨b', eb1, eb2⟩ := tc
        cases eb2
        rw [eb1]
        cases b with
        | false =>
          simp only [id, Bool.false_eq_true, if_false]
          have z := ih (pre ++ [x]) acc ys n hx' hy (by simp at hn; omega) hl
          rw [len'] at z
          exact z
        | true =>
          simp only [id, if_true]
          cases hpx : px x with
          | exc _ _ => rw [hpx] at hy; cases hy
          | stuck => rw [hpx] at hy; cases hy
          | ok zs =>
            rw [hpx] at hy ti
            obtain ⟨it1, ei, w1⟩ := ti
            rw [ei]
            simp only [An.ok_bind] at hy
            cases hin : compA (c1 x) (g x) zs with
            | exc _ _ => rw [hin] at hy; cases hy
            | stuck => rw [hin] at hy; cases hy
            | ok us =>
              rw [hin] at hy
              cases hr : compA2 c (fun x => (px x).bind fun zs => compA (c1 x) (g x) zs) r with
              | exc _ _ => rw [hr] at hy; cases hy
              | stuck => rw [hr] at hy; cases hy
              | ok rs =>
                rw [hr] at hy
                cases hy
                have run := comp_run w1 (htg1 x) (hc1 x) (hg x) (l1.wipe vs1) ho hfl zs [] acc us it1.fuel rfl hin w1.1 (by simp at hl; omega)
                simp only [List.length_nil] at run
                simp only [run]
                have z := ih (pre ++ [x]) (acc ++ us.map eb) rs n hx' hr (by simp at hn; omega) (by simp at hl ⊢; omega)
                rw [len'] at z
                rw [z]
                simp
theorem n_comp2 {e : α → CV} {e1 : γ → CV} {eb : β → CV} [Fz eb] {mi mi1 : M ITc} {tg tg1 : Tgt} {tests tests1 : M Bool} {elt : M CV} {own vs1 : List Nat} {px0 : An (List α)} {spx : α → En} {spy : α → γ → En} {c : α → An Bool} {px : α → An (List γ)} {c1 : α → γ → An Bool} {g : α → γ → An β}
    (hi : Ex sp os mi (Wk e) px0) (htg : ∀ x, TgP tg (e x) (wipeE sp own) (spx x)) (hc : ∀ x, Ex (spx x) os tests rT (c x)) (hi1 : ∀ x, Ex (spx x) os mi1 (Wk e1) (px x)) (htg1 : ∀ x y, TgP tg1 (e1 y) (wipeE (spx x) vs1) (spy x y)) (hc1 : ∀ x y, Ex (spy x y) os tests1 rT (c1 x y)) (hg : ∀ x y, Ex (spy x y) os elt (Is eb) (g x y)) :
    Ex sp os (scopM (eComp2 mi tg tests mi1 tg1 tests1 elt own vs1)) (Is (eLs eb)) (px0.bind fun xs => (compA2 c (fun x => (px x).bind fun zs => compA (c1 x) (g x) zs) xs).bind okL) := fun env fl t l => by
  have z := hi env (os ++ t).length t l
  cases px0 with
  | stuck => trivial
  | exc d fs =>
    refine scop_exc (t' := []) (fl' := (os ++ t).length) ?_
    unfold eComp2
    rw [show mi env ⟨(os ++ t).length, os ++ t⟩ = _ from z, List.append_nil]
    rfl
  | ok xs =>
    obtain ⟨it, e1, w⟩ := z
    show Gi ((compA2 c _ xs).bind okL) _ _ _
    cases hy : compA2 c (fun x => (px x).bind fun zs => compA (c1 x) (g x) zs) xs with
    | stuck => trivial
    | exc d fs => exact absurd hy (compA2_exc xs)
    | ok ys =>
      show Gi (okL ys) _ _ _
      unfold okL
      cases hl : okLen ys.length with
      | false => trivial
      | true =>
        have hl' : ys.length ≤ 16777216 := of_decide_eq_true hl
        have run := comp2_run w htg hc hi1 htg1 hc1 hg (l.wipe own) (fl := (os ++ t).length) (o := os ++ t) (t := t) rfl (Nat.le_refl _) xs [] [] ys it.fuel rfl hy w.1 (by simpa using hl')
        refine ⟨_, scop_ok (t' := [.lst (ys.map eb)]) (fl' := (os ++ t).length) (v := .ref (os ++ t).length) (w := .lst (ys.map eb)) ?_ ?_, rfl⟩
        · unfold eComp2
          rw [e1]
          show (match compN2 it.next tg tests mi1 tg1 tests1 elt vs1 (wipeE env own) (os ++ t).length it.fuel 0 ⟨(os ++ t).length, (os ++ t) ++ [.lst []]⟩ with | some hp' => R.ok (CV.ref (os ++ t).length) hp' | none => .stuck) = _
          rw [show (0 : Nat) = ([] : List α).length from rfl, run]
          rfl
        · refine frzV_lst (Nat.le_refl _) ?_ (fz_map eb ys)
          rw [List.getElem?_append_right (Nat.le_refl _), Nat.sub_self]
          rfl
/-! ### any, all -/
def anyA (b0 : Bool) (c : α → An Bool) (g : α → An Bool) : List α → An Bool
  | [] => .ok b0
  | x :: r => match c x with
    | .ok true => match g x with
      | .ok y => if y = b0 then anyA b0 c g r else .ok y
      | _ => .stuck
    | .ok false => anyA b0 c g r
    | _ => .stuck
theorem anyA_any (g : α → Bool) : ∀ xs : List α, anyA false (fun _ => .ok true) (fun x => .ok (g x)) xs = .ok (xs.any g)
  | [] => rfl
  | x :: r => by
    unfold anyA
    rw [List.any_cons]
    cases h : g x
    · simp only [if_true, Bool.false_or]; exact anyA_any g r
    · rfl
theorem anyA_all (g : α → Bool) : ∀ xs : List α, anyA true (fun _ => .ok true) (fun x => .ok (g x)) xs = .ok (xs.all g)
  | [] => rfl
  | x :: r => by
    unfold anyA
    rw [List.all_cons]
    cases h : g x
    · rfl
    · simp only [if_true, Bool.true_and]; exact anyA_all g r
theorem any_run {e : α → CV} {xs : List α} {it : ITc} (w : Wk e xs it) {b0 : Bool} {tg : Tgt} {tests : M Bool} {elt : M CV} {sp : En} {spx : α → En} {c : α → An Bool} {g : α → An Bool} (htg : ∀ x, TgP tg (e x) sp (spx x)) (hc : ∀ x, Ex (spx x) os tests rT (c x)) (hg : ∀ x, Ex (spx x) os elt rB (g x))
    {env : En} (l : LeP sp env) {fl : Nat} {t : List CO} :
    ∀ (r pre : List α) (b : Bool) (n : Nat), xs = pre ++ r → anyA b0 c g r = .ok b → r.length + 1 ≤ n →
      anyN b0 it.next tg tests elt env n pre.length ⟨fl, os ++ t⟩ = some (b, ⟨fl, os ++ t⟩) := by
  intro r
  induction r with
  | nil =>
    intro pre b n hx hy hn
    cases n with
    | zero => omega
    | succ n =>
      have e1 := wk_at w hx ⟨fl, os ++ t⟩
      unfold anyN
      rw [e1]
      cases hy
      simp
  | cons x r ih =>
    intro pre b n hx hy hn
    cases n with
    | zero => simp at hn
    | succ n =>
      have e1 := wk_at w hx ⟨fl, os ++ t⟩
      have hx' : xs = (pre ++ [x]) ++ r := by rw [hx]; simp
      have len' : (pre ++ [x]).length = pre.length + 1 := by simp
      obtain ⟨env1, t1, l1⟩ := htg x env l
      have tc := hc x env1 fl t l1
      have tgv := hg x env1 fl t l1
      unfold anyN
      rw [e1]
      simp only [List.map_cons, List.getElem?_cons_zero, t1]
      unfold anyA at hy
      cases hcx : c x with
      | exc _ _ => rw [hcx] at hy; cases hy
      | stuck => rw [hcx] at hy; cases hy
      | ok d =>
        rw [hcx] at hy tc
        obtain ⟨b', eb1, eb2⟩ := tc
        cases eb2
        rw [eb1]
        cases d with
        | false =>
          simp only [id, Bool.false_eq_true, if_false]
          have z := ih (pre ++ [x]) b n hx' hy (by simp at hn; omega)
          rw [len'] at z
          exact z
        | true =>
          simp only [id, if_true]
          cases hgx : g x with
          | exc _ _ => rw [hgx] at hy; cases hy
          | stuck => rw [hgx] at hy; cases hy
          | ok y =>
            rw [hgx] at hy tgv
            obtain ⟨v, ev, ez⟩ := tgv
            cases ez
            rw [ev]
            simp only []
            by_cases hyb : y = b0
            · simp only [hyb, if_true] at hy ⊢
              have z := ih (pre ++ [x]) b n hx' hy (by simp at hn; omega)
              rw [len'] at z
              exact z
            · simp only [hyb, if_false] at hy ⊢
              cases hy
              rfl
theorem anyA_exc {b0 : Bool} {c g : α → An Bool} {d : Nat} {fs : List (Nat × CV)} : ∀ xs : List α, anyA b0 c g xs ≠ .exc d fs
  | [], h => by cases h
  | x :: r, hy => by
    unfold anyA at hy
    split at hy
    · split at hy
      · split at hy
        · exact anyA_exc r hy
        · cases hy
      · cases hy
    · exact anyA_exc r hy
    · cases hy
theorem n_any {e : α → CV} {b0 : Bool} {mi : M ITc} {tg : Tgt} {tests : M Bool} {elt : M CV} {own : List Nat} {px : An (List α)} {spx : α → En} {c g : α → An Bool}
    (hi : Ex sp os mi (Wk e) px) (htg : ∀ x, TgP tg (e x) (wipeE sp own) (spx x)) (hc : ∀ x, Ex (spx x) os tests rT (c x)) (hg : ∀ x, Ex (spx x) os elt rB (g x)) :
    Ex sp os (eAny b0 mi tg tests elt own) rB (px.bind fun xs => anyA b0 c g xs) := fun env fl t l => by
  refine (hi env fl t l).bind fun xs it w => ?_
  cases hy : anyA b0 c g xs with
  | stuck => trivial
  | exc d fs => exact absurd hy (anyA_exc xs)
  | ok b =>
    have run := any_run w (b0 := b0) htg hc hg (l.wipe own) (fl := fl) (t := t) xs [] b it.fuel rfl hy w.1
    simp only [List.length_nil] at run
    simp only [run]
    exact ⟨_, rfl, rfl⟩
theorem n_anyP {e : α → CV} {mi : M ITc} {tg : Tgt} {elt : M CV} {own : List Nat} {px : An (List α)} {spx : α → En} {g : α → Bool}
    (hi : Ex sp os mi (Wk e) px) (htg : ∀ x, TgP tg (e x) (wipeE sp own) (spx x)) (hg : ∀ x, Ex (spx x) os elt rB (.ok (g x))) :
    Ex sp os (eAny false mi tg tTrue elt own) rB (px.bind fun xs => .ok (xs.any g)) := by
  have z := n_any (b0 := false) hi htg (fun x => n_tTrue) hg
  simp only [anyA_any] at z
  exact z
theorem n_allP {e : α → CV} {mi : M ITc} {tg : Tgt} {elt : M CV} {own : List Nat} {px : An (List α)} {spx : α → En} {g : α → Bool}
    (hi : Ex sp os mi (Wk e) px) (htg : ∀ x, TgP tg (e x) (wipeE sp own) (spx x)) (hg : ∀ x, Ex (spx x) os elt rB (.ok (g x))) :
    Ex sp os (eAny true mi tg tTrue elt own) rB (px.bind fun xs => .ok (xs.all g)) := by
  have z := n_any (b0 := true) hi htg (fun x => n_tTrue) hg
  simp only [anyA_all] at z
  exact z
end
end Bl

/-! Native layer, part E: statements. -/
namespace Bl
open PySem PySem.Spec PyProof.Rows L2
section
variable {α β γ δ κ σ ρ : Type} {sp sp1 : En} {os : List CO} {fl : Nat} {hp : Hc} {rest : MS}
def Gs {κ : Type} (p : An κ) (post : κ → RS → Prop) (r : RS) : Prop := match p with
  | .ok x => post x r
  | .exc c fs => ∃ env' hp', r = .ok (.ex c fs env') hp'
  | .stuck => True
def Ss {κ : Type} (sp : En) (os : List CO) (s : MS) (p : An κ) (post : κ → RS → Prop) : Prop := ∀ env, LeP sp env → Gs p post (s env ⟨0, os⟩)
variable {p : An κ} {post : κ → RS → Prop}
theorem Gs.of {q : An α} {rel : α → β → Prop} {r : R β} {env : En} {k : α → An κ} {f : β → Hc → RS} (h : Gi q rel hp r) (hk : ∀ a v, rel a v → Gs (k a) post (f v hp)) : Gs (q.bind k) post (RS.of r env f) := by
  cases q with
  | ok a => obtain ⟨v, e, z⟩ := h; subst e; exact hk a v z
  | exc c fs => have e : r = .exc c fs hp := h; subst e; exact ⟨env, hp, rfl⟩
  | stuck => trivial
theorem Gs.ofE {q : An α} {rel : α → β → Prop} {r : R β} {env : En} {k : α → An κ} {f : β → Hc → RS} (h : Gi q rel hp r) (hk : ∀ a v, q = .ok a → rel a v → Gs (k a) post (f v hp)) : Gs (q.bind k) post (RS.of r env f) := by
  cases q with
  | ok a => obtain ⟨v, e, z⟩ := h; subst e; exact hk a v rfl z
  | exc c fs => have e : r = .exc c fs hp := h; subst e; exact ⟨env, hp, rfl⟩
  | stuck => trivial
def seqR (r : RS) (rest : MS) : RS := match r with
  | .ok (.nx env') hp' => rest env' hp'
  | r => r
theorem seq_eq {a rest : MS} {env : En} {hp : Hc} : sSeq a rest env hp = seqR (a env hp) rest := rfl
theorem seqR_of {β : Type} {r : R β} {env : En} {f : β → Hc → RS} {rest : MS} : seqR (RS.of r env f) rest = RS.of r env fun v hp => seqR (f v hp) rest := by cases r <;> rfl
theorem seqR_seqR {r : RS} {a b : MS} : seqR (seqR r a) b = seqR r (sSeq a b) := by
  cases r with
  | stuck => rfl
  | ok f hp => cases f <;> rfl
theorem of_bind {r : R α} {f : α → Hc → R β} {env : En} {g : β → Hc → RS} : RS.of (r.bind f) env g = RS.of r env fun a hp => RS.of (f a hp) env g := by cases r <;> rfl
theorem Ss.eqv {s s' : MS} (h : Ss sp os s p post) (e : ∀ env hp, s' env hp = s env hp) : Ss sp os s' p post := fun env l => by rw [e]; exact h env l
theorem Ss.weak {s : MS} (h : Ss sp os s p post) (l : LeP sp sp1) : Ss sp1 os s p post := fun env l' => h env (l.trans l')
theorem Ex.at0 {m : M β} {q : An α} {rel : α → β → Prop} (h : Ex sp os m rel q) {env : En} (l : LeP sp env) : Gi q rel ⟨0, os⟩ (m env ⟨0, os⟩) := by
  have z := h env 0 [] l
  rwa [List.append_nil] at z
/-! ### blocks -/
theorem s_end {s : MS} (h : Ss sp os (sSeq s sNil) p post) : Ss sp os s p post := h.eqv fun env hp => by
  rw [seq_eq]
  cases s env hp with
  | stuck => rfl
  | ok f hp => cases f <;> rfl
theorem s_assoc {a b : MS} (h : Ss sp os (sSeq a (sSeq b rest)) p post) : Ss sp os (sSeq (sSeq a b) rest) p post := h.eqv fun env hp => by
  rw [seq_eq, seq_eq, seqR_seqR, ← seq_eq]
theorem s_nil (h : Ss sp os rest p post) : Ss sp os (sSeq sNil rest) p post := h
theorem if_of {c : M Bool} {a b : MS} {env : En} {hp : Hc} : sSeq (sIf c a b) rest env hp = RS.of (c env hp) env fun d hp => if d then sSeq a rest env hp else sSeq b rest env hp := by
  rw [seq_eq]
  unfold sIf
  rw [seqR_of]
  congr 1
  funext d hp
  cases d <;> rfl
theorem s_if {c : M Bool} {a b : MS} {pc : An Bool} {pa pb : An κ} (hc : Ex sp os c rT pc) (ha : Ss sp os (sSeq a rest) pa post) (hb : Ss sp os (sSeq b rest) pb post) : Ss sp os (sSeq (sIf c a b) rest) (pc.bind fun d => cond d pa pb) post := fun env l => by
  rw [if_of]
  refine Gs.of (hc.at0 l) fun d v e => ?_
  cases e
  cases d
  · exact hb env l
  · exact ha env l
theorem s_ifP {c : M Bool} {a b : MS} {d : Bool} {pa pb : An κ} (hc : Ex sp os c rT (.ok d)) (ha : Ss sp os (sSeq a rest) pa post) (hb : Ss sp os (sSeq b rest) pb post) : Ss sp os (sSeq (sIf c a b) rest) (cond d pa pb) post := s_if hc ha hb
/-! ### assignment -/
theorem s_asg {t : Tgt} {m : M CV} {enc : α → CV} {q : An α} {k : α → An κ} {spx : α → En} (he : Ex sp os m (Is enc) q) (ht : ∀ x, TgP t (enc x) sp (spx x)) (hr : ∀ x, Ss (spx x) os rest (k x) post) : Ss sp os (sSeq (sAsg t m) rest) (q.bind k) post := fun env l => by
  rw [seq_eq]
  unfold sAsg
  rw [seqR_of]
  refine Gs.of (he.at0 l) fun x v e => ?_
  subst e
  obtain ⟨env1, e1, l1⟩ := ht x env l
  simp only [e1]
  exact hr x env1 l1
theorem s_asgP {t : Tgt} {m : M CV} {enc : α → CV} {x : α} (he : Ex sp os m (Is enc) (.ok x)) (ht : TgP t (enc x) sp sp1) (hr : Ss sp1 os rest p post) : Ss sp os (sSeq (sAsg t m) rest) p post := fun env l => by
  rw [seq_eq]
  unfold sAsg
  rw [seqR_of]
  obtain ⟨v, e, e2⟩ := he.at0 l
  subst e2
  rw [e]
  obtain ⟨env1, e1, l1⟩ := ht env l
  simp only [RS.of, e1]
  exact hr env1 l1
/-- a new empty list, dict, held by a name -/
theorem s_newL {i : Nat} (hr : Ss (sp.set i (some (.ref os.length))) (os ++ [.lst []]) rest p post) : Ss sp os (sSeq (sAsg (gNm i) (eLst [])) rest) p post := fun env l => hr (env.set i (some (.ref os.length))) (l.set i _)
theorem s_newD {i : Nat} {t : Bool} (hr : Ss (sp.set i (some (.ref os.length))) (os ++ [.dic t []]) rest p post) : Ss sp os (sSeq (sAsg (gNm i) (eDNew t)) rest) p post := fun env l => hr (env.set i (some (.ref os.length))) (l.set i _)
/-! ### several values at once -/
def Sa {κ : Type} (sp : En) (os : List CO) (ms : List (M CV)) (K : List CV → MS) (p : An κ) (post : κ → RS → Prop) : Prop := ∀ env, LeP sp env → Gs p post (RS.of (evA ms env ⟨0, os⟩) env fun vs hp => K vs env hp)
variable {K : List CV → MS} {ms : List (M CV)}
theorem sa_nil (h : Ss sp os (K []) p post) : Sa sp os [] K p post := fun env l => h env l
theorem sa_cons {m : M CV} {e : α → CV} {q : An α} {k : α → An κ} (he : Ex sp os m (Is e) q) (hs : ∀ x, Sa sp os ms (fun vs => K (e x :: vs)) (k x) post) : Sa sp os (m :: ms) K (q.bind k) post := fun env l => by
  show Gs _ _ (RS.of (R.bind _ _) _ _)
  rw [of_bind]
  refine Gs.of (he.at0 l) fun x v w => ?_
  subst w
  rw [of_bind]
  exact hs x env l
theorem sa_consP {m : M CV} {e : α → CV} {x : α} (he : Ex sp os m (Is e) (.ok x)) (hs : Sa sp os ms (fun vs => K (e x :: vs)) p post) : Sa sp os (m :: ms) K p post := fun env l => by
  show Gs _ _ (RS.of (R.bind _ _) _ _)
  rw [of_bind]
  obtain ⟨v, e, e2⟩ := he.at0 l
  subst e2
  rw [e]
  show Gs _ _ (RS.of (R.bind _ _) _ _)
  rw [of_bind]
  exact hs env l
theorem sa_newL (hs : Sa sp (os ++ [.lst []]) ms (fun vs => K (.ref os.length :: vs)) p post) : Sa sp os (eLst [] :: ms) K p post := fun env l => by
  show Gs _ _ (RS.of (R.bind (evA ms env ⟨0, os ++ [.lst []]⟩) _) _ _)
  rw [of_bind]
  exact hs env l
theorem sa_newD {t : Bool} (hs : Sa sp (os ++ [.dic t []]) ms (fun vs => K (.ref os.length :: vs)) p post) : Sa sp os (eDNew t :: ms) K p post := fun env l => by
  show Gs _ _ (RS.of (R.bind (evA ms env ⟨0, os ++ [.dic t []]⟩) _) _ _)
  rw [of_bind]
  exact hs env l
def parK (i j : Nat) (rest : MS) : List CV → MS
  | [v, w] => fun env hp => rest ((env.set i (some v)).set j (some w)) hp
  | _ => fun _ _ => .stuck
theorem s_par {i j : Nat} (h : Sa sp os ms (parK i j rest) p post) : Ss sp os (sSeq (sPar i j ms) rest) p post := fun env l => by
  rw [seq_eq]
  unfold sPar
  rw [seqR_of]
  refine (congrArg (Gs p post) (?_ : _ = RS.of (evA ms env ⟨0, os⟩) env fun vs hp => parK i j rest vs env hp)).mpr (h env l)
  congr 1
  funext vs hp
  match vs with
  | [] => rfl
  | [_] => rfl
  | [_, _] => rfl
  | _ :: _ :: _ :: _ => rfl
theorem parK_ok {i j : Nat} {v w : CV} (h : Ss ((sp.set i (some v)).set j (some w)) os rest p post) : Ss sp os (parK i j rest [v, w]) p post := fun env l => h _ ((l.set i _).set j _)
def parK3 (i j k : Nat) (rest : MS) : List CV → MS
  | [u, v, w] => fun env hp => rest (((env.set i (some u)).set j (some v)).set k (some w)) hp
  | _ => fun _ _ => .stuck
theorem s_par3 {i j k : Nat} (h : Sa sp os ms (parK3 i j k rest) p post) : Ss sp os (sSeq (sPar3 i j k ms) rest) p post := fun env l => by
  rw [seq_eq]
  unfold sPar3
  rw [seqR_of]
  refine (congrArg (Gs p post) (?_ : _ = RS.of (evA ms env ⟨0, os⟩) env fun vs hp => parK3 i j k rest vs env hp)).mpr (h env l)
  congr 1
  funext vs hp
  match vs with
  | [] => rfl
  | [_] => rfl
  | [_, _] => rfl
  | [_, _, _] => rfl
  | _ :: _ :: _ :: _ :: _ => rfl
theorem parK3_ok {i j k : Nat} {u v w : CV} (h : Ss (((sp.set i (some u)).set j (some v)).set k (some w)) os rest p post) : Ss sp os (parK3 i j k rest [u, v, w]) p post := fun env l => h _ (((l.set i _).set j _).set k _)
/-- a tuple display shared out to names -/
def tupK (t : Tgt) (rest : MS) (vs : List CV) : MS := fun env hp => if okLen vs.length = true then (match t.f (.tup vs) env with | some env' => rest env' hp | none => .stuck) else .stuck
theorem s_tup {t : Tgt} (h : Sa sp os ms (tupK t rest) p post) : Ss sp os (sSeq (sAsg t (eTup ms)) rest) p post := fun env l => by
  rw [seq_eq]
  unfold sAsg eTup
  rw [seqR_of, of_bind]
  refine (congrArg (Gs p post) (?_ : _ = RS.of (evA ms env ⟨0, os⟩) env fun vs hp => tupK t rest vs env hp)).mpr (h env l)
  congr 1
  funext vs hp
  unfold tupK
  cases okLen vs.length
  · rfl
  · simp only [if_true, RS.of]
    cases t.f (.tup vs) env <;> rfl
theorem tupK_ok {t : Tgt} {vs : List CV} (ht : TgP t (.tup vs) sp sp1) (h : Ss sp1 os rest p post) (hl : okLen vs.length = true := by rfl) : Ss sp os (tupK t rest vs) p post := fun env l => by
  obtain ⟨env1, e1, l1⟩ := ht env l
  unfold tupK
  rw [if_pos hl]
  simp only [e1]
  exact h env1 l1
/-! ### ends -/
/-- an answer: frozen -/
def ansF (enc : ρ → CV) : ρ → CV → Hc → Prop := fun y v hp' => frzV hp'.os 0 v = some (enc y)
/-- a def's answer -/
def postA (A : ρ → CV → Hc → Prop) : ρ → RS → Prop := fun x r => (∃ v hp', r = .ok (.rt v) hp' ∧ A x v hp') ∨ ∃ env hp', r = .ok (.nx env) hp' ∧ A x .non hp'
abbrev postF (enc : ρ → CV) : ρ → RS → Prop := postA (ansF enc)
/-- a block's: what the slots and the objects hold behind it -/
def postB (st : σ → En × List CO) : σ → RS → Prop := fun s r => ∃ env', (r = .ok (.nx env') ⟨0, (st s).2⟩ ∨ r = .ok (.ct env') ⟨0, (st s).2⟩) ∧ LeP (st s).1 env'
inductive Lp (σ ρ : Type) : Type where
  | nx (s : σ) | bk (s : σ) | rt (r : ρ)
/-- a loop's body -/
def postL (st : σ → En × List CO) (A : ρ → CV → Hc → Prop) : Lp σ ρ → RS → Prop := fun x r => match x with
  | .nx s => ∃ env', (r = .ok (.nx env') ⟨0, (st s).2⟩ ∨ r = .ok (.ct env') ⟨0, (st s).2⟩) ∧ LeP (st s).1 env'
  | .bk s => ∃ env', r = .ok (.bk env') ⟨0, (st s).2⟩ ∧ LeP (st s).1 env'
  | .rt y => ∃ v hp', r = .ok (.rt v) hp' ∧ A y v hp'
/-- a block with another way out: its state or an answer -/
def postJ (st : σ → En × List CO) (A : ρ → CV → Hc → Prop) : Lp σ ρ → RS → Prop := fun x r => match x with
  | .nx s => ∃ env', r = .ok (.nx env') ⟨0, (st s).2⟩ ∧ LeP (st s).1 env'
  | .bk _ => False
  | .rt y => ∃ v hp', r = .ok (.rt v) hp' ∧ A y v hp'
/-- what takes an answer on -/
class RtP (post : κ → RS → Prop) (A : outParam (ρ → CV → Hc → Prop)) (k : outParam (ρ → κ)) : Prop where
  rt : ∀ y v hp', A y v hp' → post (k y) (.ok (.rt v) hp')
instance {A : ρ → CV → Hc → Prop} : RtP (postA A) A id := ⟨fun y v hp' h => .inl ⟨v, hp', rfl, h⟩⟩
instance {st : σ → En × List CO} {A : ρ → CV → Hc → Prop} : RtP (postL st A) A Lp.rt := ⟨fun y v hp' h => ⟨v, hp', rfl, h⟩⟩
instance {st : σ → En × List CO} {A : ρ → CV → Hc → Prop} : RtP (postJ st A) A Lp.rt := ⟨fun y v hp' h => ⟨v, hp', rfl, h⟩⟩
theorem s_retA {enc : α → CV} {A : ρ → CV → Hc → Prop} {k : ρ → κ} [RtP post A k] {g : α → ρ} {m : M CV} {q : An α} (he : Ex sp os m (Is enc) q) (hA : ∀ x, A (g x) (enc x) ⟨0, os⟩) : Ss sp os (sSeq (sRet m) rest) (q.bind fun x => .ok (k (g x))) post := fun env l => by
  rw [seq_eq]
  unfold sRet
  rw [seqR_of]
  refine Gs.of (he.at0 l) fun x v e => ?_
  subst e
  exact RtP.rt (post := post) _ _ _ (hA x)
theorem s_ret {enc : ρ → CV} [Fz enc] {k : ρ → κ} [RtP post (ansF enc) k] {m : M CV} {q : An ρ} (he : Ex sp os m (Is enc) q) : Ss sp os (sSeq (sRet m) rest) (q.bind fun x => .ok (k x)) post := s_retA (g := id) he fun x => frzV_froz _ 0 (Fz.lim x)
theorem s_retF {enc : ρ → CV} [Fz enc] {m : M CV} {q : An ρ} (he : Ex sp os m (Is enc) q) : Ss sp os (sSeq (sRet m) rest) q (postF enc) := by
  have z := s_ret (rest := rest) (post := postF enc) (k := id) he
  have e : (q.bind fun x => An.ok (id x)) = q := An.bind_ok q
  rwa [e] at z
theorem s_retNF : Ss sp os (sSeq sRetN rest) (.ok ()) (postF eN) := fun env l => .inl ⟨.non, _, rfl, rfl⟩
theorem s_retN {k : Unit → κ} [RtP post (ansF eN) k] : Ss sp os (sSeq sRetN rest) (.ok (k ())) post := fun env l => RtP.rt (post := post) () _ _ rfl
theorem s_noneF : Ss sp os sNil (.ok ()) (postF eN) := fun env l => .inr ⟨env, _, rfl, rfl⟩
/-- the answer is a living list -/
theorem s_retV {e : α → CV} [Fz e] {i n : Nat} {xs : List α} (h : sp[i]? = some (some (.ref n)) := by rfl) (ho : os[n]? = some (.lst (xs.map e)) := by rfl) : Ss sp os (sSeq (sRet (eVar i)) rest) (.ok xs) (postF (eLs e)) := fun env l => by
  rw [seq_eq]
  unfold sRet eVar
  rw [l.get h]
  exact .inl ⟨_, _, rfl, frzV_lst (Nat.zero_le _) ho (fz_map e xs)⟩
theorem s_retVL {e : α → CV} [Fz e] {k : List α → κ} [RtP post (ansF (eLs e)) k] {i n : Nat} {xs : List α} (h : sp[i]? = some (some (.ref n)) := by rfl) (ho : os[n]? = some (.lst (xs.map e)) := by rfl) : Ss sp os (sSeq (sRet (eVar i)) rest) (.ok (k xs)) post := fun env l => by
  rw [seq_eq]
  unfold sRet eVar
  rw [l.get h]
  exact RtP.rt (post := post) xs _ _ (frzV_lst (Nat.zero_le _) ho (fz_map e xs))
theorem fz_mapK {ek : α → CV} {ev : β → CV} [Fz ev] : ∀ xs : List (α × β), limK 0 (xs.map (eKV ek ev)) = true
  | [] => rfl
  | x :: xs => by
    show (limV 0 (ev x.2) && limK 0 (xs.map (eKV ek ev))) = true
    rw [Fz.lim x.2, fz_mapK xs]; rfl
theorem s_retVD {t : Bool} {ek : α → CV} {ev : β → CV} [Fz ev] {i n : Nat} {xs : List (α × β)} (h : sp[i]? = some (some (.ref n)) := by rfl) (ho : os[n]? = some (.dic t (xs.map (eKV ek ev))) := by rfl) : Ss sp os (sSeq (sRet (eVar i)) rest) (.ok xs) (postF (eDt t ek ev)) := fun env l => by
  rw [seq_eq]
  unfold sRet eVar
  rw [l.get h]
  exact .inl ⟨_, _, rfl, frzV_dic (Nat.zero_le _) ho (fz_mapK xs)⟩
theorem s_raise {c : Nat} : Ss sp os (sSeq (sRaise c) rest) (.exc c [] : An κ) post := fun env l => ⟨env, _, rfl⟩
theorem s_done {st : σ → En × List CO} {s : σ} (l0 : LeP (st s).1 sp) (o0 : os = (st s).2 := by rfl) : Ss sp os sNil (.ok s) (postB st) := fun env l => by
  subst o0
  exact ⟨env, .inl rfl, l0.trans l⟩
theorem s_cntB {st : σ → En × List CO} {s : σ} (l0 : LeP (st s).1 sp) (o0 : os = (st s).2 := by rfl) : Ss sp os (sSeq sCnt rest) (.ok s) (postB st) := fun env l => by
  subst o0
  exact ⟨env, .inr rfl, l0.trans l⟩
theorem s_doneL {st : σ → En × List CO} {A : ρ → CV → Hc → Prop} {s : σ} (l0 : LeP (st s).1 sp) (o0 : os = (st s).2 := by rfl) : Ss sp os sNil (.ok (.nx s)) (postL st A) := fun env l => by
  subst o0
  exact ⟨env, .inl rfl, l0.trans l⟩
theorem s_cntL {st : σ → En × List CO} {A : ρ → CV → Hc → Prop} {s : σ} (l0 : LeP (st s).1 sp) (o0 : os = (st s).2 := by rfl) : Ss sp os (sSeq sCnt rest) (.ok (.nx s)) (postL st A) := fun env l => by
  subst o0
  exact ⟨env, .inr rfl, l0.trans l⟩
theorem s_brkL {st : σ → En × List CO} {A : ρ → CV → Hc → Prop} {s : σ} (l0 : LeP (st s).1 sp) (o0 : os = (st s).2 := by rfl) : Ss sp os (sSeq sBrk rest) (.ok (.bk s)) (postL st A) := fun env l => by
  subst o0
  exact ⟨env, rfl, l0.trans l⟩
theorem s_doneJ {st : σ → En × List CO} {A : ρ → CV → Hc → Prop} {s : σ} (l0 : LeP (st s).1 sp) (o0 : os = (st s).2 := by rfl) : Ss sp os sNil (.ok (.nx s)) (postJ st A) := fun env l => by
  subst o0
  exact ⟨env, rfl, l0.trans l⟩
/-! ### a block, then the rest -/
/-- a block that comes to its end -/
def postN (st : σ → En × List CO) : σ → RS → Prop := fun s r => ∃ env', r = .ok (.nx env') ⟨0, (st s).2⟩ ∧ LeP (st s).1 env'
theorem s_doneN {st : σ → En × List CO} {s : σ} (l0 : LeP (st s).1 sp) (o0 : os = (st s).2 := by rfl) : Ss sp os sNil (.ok s) (postN st) := fun env l => by
  subst o0
  exact ⟨env, rfl, l0.trans l⟩
theorem s_join {a : MS} {st : σ → En × List CO} {q : An σ} {k : σ → An κ} (h : Ss sp os a q (postN st)) (hr : ∀ s, Ss (st s).1 (st s).2 rest (k s) post) : Ss sp os (sSeq a rest) (q.bind k) post := fun env l => by
  have z := h env l
  rw [seq_eq]
  cases q with
  | stuck => trivial
  | exc c fs => obtain ⟨env', hp', e⟩ := z; rw [e]; exact ⟨env', hp', rfl⟩
  | ok s => obtain ⟨env', e, l'⟩ := z; rw [e]; exact hr s env' l'
theorem s_joinR {a : MS} {st : σ → En × List CO} {A : ρ → CV → Hc → Prop} {kr : ρ → κ} [RtP post A kr] {q : An (Lp σ ρ)} {k : σ → An κ} (h : Ss sp os a q (postJ st A)) (hr : ∀ s, Ss (st s).1 (st s).2 rest (k s) post) : Ss sp os (sSeq a rest) (q.bind fun x => match x with | .nx s => k s | .bk _ => .stuck | .rt y => .ok (kr y)) post := fun env l => by
  have z := h env l
  rw [seq_eq]
  cases q with
  | stuck => trivial
  | exc c fs => obtain ⟨env', hp', e⟩ := z; rw [e]; exact ⟨env', hp', rfl⟩
  | ok x =>
    cases x with
    | nx s => obtain ⟨env', e, l'⟩ := z; rw [e]; exact hr s env' l'
    | bk s => exact z.elim
    | rt y => obtain ⟨v, hp', e, f⟩ := z; rw [e]; exact RtP.rt (post := post) y v hp' f
theorem s_exp {m : M CV} {rel : α → CV → Prop} {q : An α} {k : α → An κ} (he : Ex sp os m rel q) (hr : ∀ x, Ss sp os rest (k x) post) : Ss sp os (sSeq (sExp m) rest) (q.bind k) post := fun env l => by
  rw [seq_eq]
  unfold sExp
  rw [seqR_of]
  exact Gs.of (he.at0 l) fun x v e => hr x env l
/-! ### writes -/
abbrev okA (n : Nat) : Bool := decide (n < 16777216)
theorem s_appendE {e : α → CV} [Fz e] {i n : Nat} {ma : M CV} {xs : List α} {q : An α} {k : α → An κ} (ha : Ex sp os ma (Is e) q) (hr : ∀ x, q = .ok x → Ss sp (os.set n (.lst ((xs ++ [x]).map e))) rest (k x) post) (h : sp[i]? = some (some (.ref n)) := by rfl) (ho : os[n]? = some (.lst (xs.map e)) := by rfl) :
    Ss sp os (sSeq (sExp (eAppend (eVar i) ma)) rest) (q.bind fun x => grd (okA xs.length) (k x)) post := fun env l => by
  rw [seq_eq]
  unfold sExp
  rw [seqR_of]
  have hv : eVar i env ⟨0, os⟩ = .ok (.ref n) ⟨0, os⟩ := by unfold eVar; rw [l.get h]
  have hl : isL ⟨0, os⟩ n = true := by unfold isL; simp only [ho]
  unfold eAppend
  rw [hv]
  simp only [R.bind, hl, if_true]
  show Gs _ _ (RS.of (R.bind (ma env ⟨0, os⟩) _) _ _)
  rw [of_bind]
  refine Gs.ofE (ha.at0 l) fun x v hq z => ?_
  subst z
  have lim : limL 0 ((xs ++ [x]).map e) = true := fz_map e _
  cases hk : okA xs.length with
  | false => trivial
  | true =>
    have ap : appC n (e x) ⟨0, os⟩ = some ⟨0, os.set n (.lst ((xs ++ [x]).map e))⟩ := by
      unfold appC
      simp only [ho, Nat.not_lt_zero, decide_false, Bool.false_and, Bool.false_eq_true, if_false, List.length_map]
      rw [if_pos hk]
      rw [List.map_append]
      rfl
    rw [ap]
    exact hr x hq env l
theorem s_append {e : α → CV} [Fz e] {i n : Nat} {ma : M CV} {xs : List α} {q : An α} {k : α → An κ} (ha : Ex sp os ma (Is e) q) (hr : ∀ x, Ss sp (os.set n (.lst ((xs ++ [x]).map e))) rest (k x) post) (h : sp[i]? = some (some (.ref n)) := by rfl) (ho : os[n]? = some (.lst (xs.map e)) := by rfl) :
    Ss sp os (sSeq (sExp (eAppend (eVar i) ma)) rest) (q.bind fun x => grd (okA xs.length) (k x)) post := s_appendE ha (fun x _ => hr x) h ho
theorem s_appendP {e : α → CV} [Fz e] {i n : Nat} {ma : M CV} {xs : List α} {x : α} (ha : Ex sp os ma (Is e) (.ok x)) (hr : Ss sp (os.set n (.lst ((xs ++ [x]).map e))) rest p post) (h : sp[i]? = some (some (.ref n)) := by rfl) (ho : os[n]? = some (.lst (xs.map e)) := by rfl) :
    Ss sp os (sSeq (sExp (eAppend (eVar i) ma)) rest) (grd (okA xs.length) p) post := s_appendE (k := fun _ => p) ha (fun y hy => by cases hy; exact hr) h ho
theorem s_dputE [DecidableEq α] {t : Bool} {ek : α → CV} {ev : β → CV} [Ky t ek] [Fz ev] {i n : Nat} {mv mi : M CV} {kvs : List (α × β)} {qv : An β} {qk : An α} {k : β → α → An κ} (hv : Ex sp os mv (Is ev) qv) (hi : Ex sp os mi (Is ek) qk) (hr : ∀ v x, qv = .ok v → qk = .ok x → Ss sp (os.set n (.dic t ((nput x v kvs).map (eKV ek ev)))) rest (k v x) post) (h : sp[i]? = some (some (.ref n)) := by rfl) (ho : os[n]? = some (.dic t (kvs.map (eKV ek ev))) := by rfl) :
    Ss sp os (sSeq (sDPutC mv (eVar i) mi) rest) (qv.bind fun v => qk.bind fun x => grd (okA kvs.length) (k v x)) post := fun env l => by
  rw [seq_eq]
  unfold sDPutC
  rw [seqR_of]
  refine Gs.ofE (hv.at0 l) fun y v hq1 z => ?_
  subst z
  have hvar : eVar i env ⟨0, os⟩ = .ok (.ref n) ⟨0, os⟩ := by unfold eVar; rw [l.get h]
  rw [seqR_of, hvar]
  show Gs _ _ (seqR (RS.of (mi env ⟨0, os⟩) env _) rest)
  rw [seqR_of]
  refine Gs.ofE (hi.at0 l) fun x v hq2 z => ?_
  subst z
  cases hk : okA kvs.length with
  | false => trivial
  | true =>
    have pt : putH (.ref n) (ek x) (ev y) ⟨0, os⟩ = some ⟨0, os.set n (.dic t ((nput x y kvs).map (eKV ek ev)))⟩ := by
      unfold putH
      have pm := put_map (t := t) (ek := ek) (ev := ev) x y kvs
      cases t with
      | false =>
        simp only [ho, Ky.kf (t := false) (e := ek) rfl x, if_true, Nat.not_lt_zero, decide_false, Bool.false_and, Bool.false_eq_true, if_false, List.length_map]
        rw [if_pos hk]
        have pm' : putD kEq (ek x) (ev y) (kvs.map (eKV ek ev)) = _ := pm
        rw [pm']
        rfl
      | true =>
        simp only [ho, Ky.kt (t := true) (e := ek) rfl x, if_true, Nat.not_lt_zero, decide_false, Bool.false_and, Bool.false_eq_true, if_false, List.length_map]
        rw [if_pos hk]
        have pm' : putD tEq (ek x) (ev y) (kvs.map (eKV ek ev)) = _ := pm
        rw [pm']
        rfl
    simp only [pt]
    exact hr y x hq1 hq2 env l
theorem s_dput [DecidableEq α] {t : Bool} {ek : α → CV} {ev : β → CV} [Ky t ek] [Fz ev] {i n : Nat} {mv mi : M CV} {kvs : List (α × β)} {qv : An β} {qk : An α} {k : β → α → An κ} (hv : Ex sp os mv (Is ev) qv) (hi : Ex sp os mi (Is ek) qk) (hr : ∀ v x, Ss sp (os.set n (.dic t ((nput x v kvs).map (eKV ek ev)))) rest (k v x) post) (h : sp[i]? = some (some (.ref n)) := by rfl) (ho : os[n]? = some (.dic t (kvs.map (eKV ek ev))) := by rfl) :
    Ss sp os (sSeq (sDPutC mv (eVar i) mi) rest) (qv.bind fun v => qk.bind fun x => grd (okA kvs.length) (k v x)) post := s_dputE hv hi (fun v x _ _ => hr v x) h ho
theorem s_dputP [DecidableEq α] {t : Bool} {ek : α → CV} {ev : β → CV} [Ky t ek] [Fz ev] {i n : Nat} {mv mi : M CV} {kvs : List (α × β)} {v : β} {x : α} (hv : Ex sp os mv (Is ev) (.ok v)) (hi : Ex sp os mi (Is ek) (.ok x)) (hr : Ss sp (os.set n (.dic t ((nput x v kvs).map (eKV ek ev)))) rest p post) (h : sp[i]? = some (some (.ref n)) := by rfl) (ho : os[n]? = some (.dic t (kvs.map (eKV ek ev))) := by rfl) :
    Ss sp os (sSeq (sDPutC mv (eVar i) mi) rest) (grd (okA kvs.length) p) post := s_dputE (k := fun _ _ => p) hv hi (fun y z hy hz => by cases hy; cases hz; exact hr) h ho
/-! ### for -/
def forF (f : σ → α → An σ) : σ → List α → An σ
  | s, [] => .ok s
  | s, x :: r => (f s x).bind fun s' => forF f s' r
def forL (f : σ → α → An (Lp σ ρ)) : σ → List α → An (Lp σ ρ)
  | s, [] => .ok (.nx s)
  | s, x :: r => (f s x).bind fun y => match y with
    | .nx s' => forL f s' r
    | .bk s' => .ok (.nx s')
    | .rt z => .ok (.rt z)
theorem forF_run {e : α → CV} {xs : List α} {it : ITc} (w : Wk e xs it) {tg : Tgt} {body : MS} {st : σ → En × List CO} {spx : σ → α → En} {f : σ → α → An σ}
    (htg : ∀ s x, TgP tg (e x) (st s).1 (spx s x)) (hb : ∀ s x, Ss (spx s x) (st s).2 body (f s x) (postB st)) :
    ∀ (r pre : List α) (s : σ) (n : Nat) (env : En), xs = pre ++ r → r.length + 1 ≤ n → LeP (st s).1 env → Gs (forF f s r) (postN st) (forN it.next tg body n pre.length env ⟨0, (st s).2⟩) := by
  intro r
  induction r with
  | nil =>
    intro pre s n env hx hn l
    cases n with
    | zero => omega
    | succ n =>
      have e1 := wk_at w hx ⟨0, (st s).2⟩
      unfold forN
      rw [e1]
      exact ⟨env, rfl, l⟩
  | cons x r ih =>
    intro pre s n env hx hn l
    cases n with
    | zero => simp at hn
    | succ n =>
      have e1 := wk_at w hx ⟨0, (st s).2⟩
      have hx' : xs = (pre ++ [x]) ++ r := by rw [hx]; simp
      have len' : (pre ++ [x]).length = pre.length + 1 := by simp
      obtain ⟨env1, t1, l1⟩ := htg s x env l
      have b := hb s x env1 l1
      unfold forN
      rw [e1]
      simp only [List.map_cons, List.getElem?_cons_zero, t1]
      show Gs ((f s x).bind fun s' => forF f s' r) _ _
      cases hf : f s x with
      | stuck => trivial
      | exc c fs =>
        rw [hf] at b
        obtain ⟨env', hp', eb⟩ := b
        rw [eb]
        exact ⟨env', hp', rfl⟩
      | ok s' =>
        rw [hf] at b
        obtain ⟨env', eb, l'⟩ := b
        have z := ih (pre ++ [x]) s' n env' hx' (by simp at hn; omega) l'
        rw [len'] at z
        rcases eb with eb | eb <;> (rw [eb]; exact z)
theorem s_forF {e : α → CV} {mi : M ITc} {tg : Tgt} {body : MS} {st : σ → En × List CO} {spx : σ → α → En} {f : σ → α → An σ} {px : An (List α)} {s0 : σ} {k : σ → An κ} (hi : Ex sp os mi (Wk e) px) (l0 : LeP (st s0).1 sp) (o0 : os = (st s0).2)
    (htg : ∀ s x, TgP tg (e x) (st s).1 (spx s x)) (hb : ∀ s x, Ss (spx s x) (st s).2 body (f s x) (postB st)) (hr : ∀ s, Ss (st s).1 (st s).2 rest (k s) post) :
    Ss sp os (sSeq (sFor mi tg body) rest) (px.bind fun xs => (forF f s0 xs).bind k) post := fun env l => by
  subst o0
  rw [seq_eq]
  unfold sFor
  rw [seqR_of]
  refine Gs.of (hi.at0 l) fun xs it w => ?_
  have z := forF_run w htg hb xs [] s0 it.fuel env rfl w.1 (l0.trans l)
  simp only [List.length_nil] at z
  cases hf : forF f s0 xs with
  | stuck => trivial
  | exc c fs =>
    rw [hf] at z
    obtain ⟨env', hp', eb⟩ := z
    rw [eb]
    exact ⟨env', hp', rfl⟩
  | ok s =>
    rw [hf] at z
    obtain ⟨env', eb, l'⟩ := z
    rw [eb]
    exact hr s env' l'
theorem forL_run {e : α → CV} {xs : List α} {it : ITc} (w : Wk e xs it) {tg : Tgt} {body : MS} {st : σ → En × List CO} {A : ρ → CV → Hc → Prop} {spx : σ → α → En} {f : σ → α → An (Lp σ ρ)}
    (htg : ∀ s x, TgP tg (e x) (st s).1 (spx s x)) (hb : ∀ s x, Ss (spx s x) (st s).2 body (f s x) (postL st A)) :
    ∀ (r pre : List α) (s : σ) (n : Nat) (env : En), xs = pre ++ r → r.length + 1 ≤ n → LeP (st s).1 env → Gs (forL f s r) (postJ st A) (forN it.next tg body n pre.length env ⟨0, (st s).2⟩) := by
  intro r
  induction r with
  | nil =>
    intro pre s n env hx hn l
    cases n with
    | zero => omega
    | succ n =>
      have e1 := wk_at w hx ⟨0, (st s).2⟩
      unfold forN
      rw [e1]
      exact ⟨env, rfl, l⟩
  | cons x r ih =>
    intro pre s n env hx hn l
    cases n with
    | zero => simp at hn
    | succ n =>
      have e1 := wk_at w hx ⟨0, (st s).2⟩
      have hx' : xs = (pre ++ [x]) ++ r := by rw [hx]; simp
      have len' : (pre ++ [x]).length = pre.length + 1 := by simp
      obtain ⟨env1, t1, l1⟩ := htg s x env l
      have b := hb s x env1 l1
      unfold forN
      rw [e1]
      simp only [List.map_cons, List.getElem?_cons_zero, t1]
      show Gs ((f s x).bind _) _ _
      cases hf : f s x with
      | stuck => trivial
      | exc c fs =>
        rw [hf] at b
        obtain ⟨env', hp', eb⟩ := b
        rw [eb]
        exact ⟨env', hp', rfl⟩
      | ok y =>
        rw [hf] at b
        cases y with
        | nx s' =>
          obtain ⟨env', eb, l'⟩ := b
          have z := ih (pre ++ [x]) s' n env' hx' (by simp at hn; omega) l'
          rw [len'] at z
          rcases eb with eb | eb <;> (rw [eb]; exact z)
        | bk s' =>
          obtain ⟨env', eb, l'⟩ := b
          rw [eb]
          exact ⟨env', rfl, l'⟩
        | rt z =>
          obtain ⟨v, hp', eb, f'⟩ := b
          rw [eb]
          exact ⟨v, hp', rfl, f'⟩
theorem s_forL {e : α → CV} {mi : M ITc} {tg : Tgt} {body : MS} {st : σ → En × List CO} {A : ρ → CV → Hc → Prop} {kr : ρ → κ} [RtP post A kr] {spx : σ → α → En} {f : σ → α → An (Lp σ ρ)} {px : An (List α)} {s0 : σ} {k : σ → An κ} (hi : Ex sp os mi (Wk e) px) (l0 : LeP (st s0).1 sp) (o0 : os = (st s0).2)
    (htg : ∀ s x, TgP tg (e x) (st s).1 (spx s x)) (hb : ∀ s x, Ss (spx s x) (st s).2 body (f s x) (postL st A)) (hr : ∀ s, Ss (st s).1 (st s).2 rest (k s) post) :
    Ss sp os (sSeq (sFor mi tg body) rest) (px.bind fun xs => (forL f s0 xs).bind fun x => match x with | .nx s => k s | .bk _ => .stuck | .rt y => .ok (kr y)) post := fun env l => by
  subst o0
  rw [seq_eq]
  unfold sFor
  rw [seqR_of]
  refine Gs.of (hi.at0 l) fun xs it w => ?_
  have z := forL_run w htg hb xs [] s0 it.fuel env rfl w.1 (l0.trans l)
  simp only [List.length_nil] at z
  cases hf : forL f s0 xs with
  | stuck => trivial
  | exc c fs =>
    rw [hf] at z
    obtain ⟨env', hp', eb⟩ := z
    rw [eb]
    exact ⟨env', hp', rfl⟩
  | ok y =>
    rw [hf] at z
    cases y with
    | nx s =>
      obtain ⟨env', eb, l'⟩ := z
      rw [eb]
      exact hr s env' l'
    | bk s => exact z.elim
    | rt y =>
      obtain ⟨v, hp', eb, f'⟩ := z
      rw [eb]
      exact RtP.rt (post := post) y v hp' f'
/-! ### defs -/
theorem fn_loc {n : Nat} {body : MS} {args : List CV} {q : An ρ} {enc : ρ → CV} (ha : limL 0 args = true) (h : Ss (args.map some ++ List.replicate (n - args.length) none) [] body q (postF enc)) (hp : Hc) : Gi q (Is enc) hp (loc (fnM n body) args hp) := by
  have z := h _ (LeP.refl _)
  unfold loc fnM
  rw [if_pos ha]
  revert z
  generalize body (args.map some ++ List.replicate (n - args.length) none) ⟨0, []⟩ = r
  intro z
  cases q with
  | stuck => trivial
  | exc c fs => obtain ⟨env', hp', e⟩ := z; subst e; exact rfl
  | ok x =>
    rcases z with ⟨v, hp', e, f⟩ | ⟨env', hp', e, f⟩
    · subst e
      have f' : frzV hp'.os 0 v = some (enc x) := f
      simp only [f']
      exact ⟨_, rfl, rfl⟩
    · subst e
      have f' : frzV hp'.os 0 .non = some (enc x) := f
      simp only [f']
      exact ⟨_, rfl, rfl⟩
end
end Bl

/-! Native layer, part F: a name set by a frozen value; makers; refusals told. -/
namespace Bl
open PySem PySem.Spec PyProof.Rows L2
section
variable {X : Cx} {Γ : Gx} {W : WX} {k : Nat} {F : List Nat} {ρ ρ' : Rh} {N N' : Nat} {H H' : Hp} {σ : L2.St} {env : En} {hp : Hc} {D : Ends} {pos : Pos}
/-- the value frozen ahead of the setting -/
theorem asgZ_ok {i : Nat} {m : M CV} (h : rdS Γ W (sAsg (gNm i) (scopM m)) D σ H) : rdS Γ W (sAsg (gNm i) m) D σ H := by
  obtain ⟨ρ, F, hp, env, r, e, p⟩ := h
  refine ⟨ρ, hp.N :: F, ⟨hp.N, hp.os⟩, env, r.into, e, ?_⟩
  have hfl : hp.fl ≤ hp.N := r.fl
  have hF : ∀ f ∈ F, f ≤ hp.fl := fun f hf => (r.fls f hf).1
  unfold sAsg scopM scop at p
  unfold sAsg
  revert p
  show PostS Γ F W ρ hp.N H (RS.of (match m env ⟨hp.N, hp.os⟩ with
    | .ok v hp' => match frzV hp'.os hp.N v with
      | some v' => .ok v' (hp'.cut hp.fl hp.N)
      | none => .stuck
    | .exc c fs hp' => .exc c fs (hp'.cut hp.fl hp.N)
    | .stuck => .stuck) env fun v hp => _) D → PostS Γ (hp.N :: F) W ρ hp.N H (RS.of (m env ⟨hp.N, hp.os⟩) env fun v hp => _) D
  generalize m env ⟨hp.N, hp.os⟩ = z
  intro p
  have cutE : ∀ {hp' : Hc} {ρ' : Rh} {H' : Hp} {σ' : L2.St}, Step ρ hp.N H ρ' hp'.N H' → SRe Γ ρ' hp'.N H' σ' env → SRe Γ ρ' hp.N H' σ' env := fun s q => ⟨q.len, fun j v hj => by
    obtain ⟨x, h1, h2⟩ := q.get j v hj
    obtain ⟨x0, h3, h4⟩ := e.get j v hj
    exact ⟨x, h1, Rep.trunc s.le v (.inr (rep_lim v h4)) h2⟩⟩
  cases z with
  | stuck => exact p
  | exc c fs hp' =>
    intro ρ' H' σ' d s r' q q2
    refine p ρ' H' σ' d ?_ (r'.cut s.le hfl hF) ?_ ?_
    · rw [Hc.cut_N s.le]; exact s.cutN r'.inj
    · rw [Hc.cut_N s.le]; exact excR_trunc s.le q
    · rw [Hc.cut_N s.le]; exact cutE s q2
  | ok v hp' =>
    cases ev : frzV hp'.os hp.N v with
    | none => simp only [ev] at p; exact p.elim
    | some v' =>
      simp only [ev] at p
      have p' : PostS Γ F W ρ hp.N H (.ok (.nx (env.set i (some v'))) (hp'.cut hp.fl hp.N)) D := p
      show PostS Γ (hp.N :: F) W ρ hp.N H (.ok (.nx (env.set i (some v))) hp') D
      intro ρ' H' σ' s r' q
      refine p' ρ' H' σ' ?_ (r'.cut s.le hfl hF) ?_
      · rw [Hc.cut_N s.le]; exact s.cutN r'.inj
      · rw [Hc.cut_N s.le]
        refine ⟨by rw [List.length_set]; have := q.len; rwa [List.length_set] at this, fun j w hj => ?_⟩
        by_cases hij : i = j
        · subst hij
          have hl : i < env.length := by
            have := (List.getElem?_eq_some_iff.mp hj).1
            rwa [List.length_set] at this
          rw [List.getElem?_set_self hl] at hj
          cases hj
          obtain ⟨x, h1, h2⟩ := q.get i v (by rw [List.getElem?_set_self hl])
          exact ⟨x, h1, frzV_ok r' s.le ev h2⟩
        · rw [List.getElem?_set_ne hij] at hj
          obtain ⟨x, h1, h2⟩ := q.get j w (by rw [List.getElem?_set_ne hij]; exact hj)
          obtain ⟨x0, h3, h4⟩ := e.get j w hj
          exact ⟨x, h1, Rep.trunc s.le w (.inr (rep_lim w h4)) h2⟩
theorem sim_asgZ {st : Stmt} {i : Nat} {m : M CV} (h : SimS X Γ W st (sAsg (gNm i) m)) : SimS X Γ W st (sAsg (gNm i) (scopM m)) := ps_imp h fun D σ H q => asgZ_ok q
end
section
variable {α β γ δ κ σ ρ : Type} {sp sp1 : En} {os : List CO} {fl : Nat} {hp : Hc} {rest : MS} {p : An κ} {post : κ → RS → Prop}
/-! ### makers -/
theorem s_fld {tab : List (List Nat)} {q n c : Nat} {i : Nat} {mv : M CV} {e : α → CV} [Fz e] {fs : List (Nat × CV)} {qv : An α} {k : α → An κ} (hv : Ex sp os mv (Is e) qv) (hr : ∀ x, Ss sp (os.set n (.ins c (putC q (e x) fs))) rest (k x) post) (h : sp[i]? = some (some (.ref n)) := by rfl) (ho : os[n]? = some (.ins c fs) := by rfl) (ht : hasF tab c q = true := by rfl) (hl : decide (fs.length < 1000) = true := by rfl) :
    Ss sp os (sSeq (sFldC tab q (eVar i) mv) rest) (qv.bind k) post := fun env l => by
  rw [seq_eq]
  unfold sFldC
  rw [seqR_of]
  refine Gs.of (hv.at0 l) fun y v z => ?_
  subst z
  have hvar : eVar i env ⟨0, os⟩ = .ok (.ref n) ⟨0, os⟩ := by unfold eVar; rw [l.get h]
  rw [seqR_of, hvar]
  simp only [RS.of, ho, ht, if_true, Nat.not_lt_zero, decide_false, Bool.false_and, Bool.false_eq_true, if_false, hl]
  exact hr y env l
def postI (enc : ρ → CV) : ρ → RS → Prop := fun x r => ∃ c fs env fl rest, (r = .ok (.nx env) ⟨fl, .ins c fs :: rest⟩ ∨ r = .ok (.rt .non) ⟨fl, .ins c fs :: rest⟩) ∧ enc x = .ins c fs ∧ limF 0 fs = true
theorem s_doneI {enc : ρ → CV} {x : ρ} {c : Nat} {fs : List (Nat × CV)} {rs : List CO} (e : enc x = .ins c fs) (l : limF 0 fs = true) : Ss sp (.ins c fs :: rs) sNil (.ok x) (postI enc) := fun env _ => ⟨c, fs, env, 0, rs, .inl rfl, e, l⟩
theorem lf_nil : limF 0 [] = true := rfl
theorem lf_cons {k : Nat} {v : CV} {fs : List (Nat × CV)} (h : limV 0 v = true) (hs : limF 0 fs = true) : limF 0 ((k, v) :: fs) = true := by
  show (limV 0 v && limF 0 fs) = true
  rw [h, hs]; rfl
theorem fn_init {n c : Nat} {body : MS} {args : List CV} {q : An ρ} {enc : ρ → CV} (hc : ∀ x, ∃ fs, enc x = .ins c fs) (ha : limL 0 args = true) (h : Ss (some (.ref 0) :: args.map some ++ List.replicate (n - (args.length + 1)) none) [.ins c []] body q (postI enc)) (hp : Hc) : Gi q (Is enc) hp (mkZ c (fnM n body) args hp) := by
  have z := h _ (LeP.refl _)
  unfold mkZ fnM
  rw [if_pos ha]
  have eb : body (List.map some (CV.ref 0 :: args) ++ List.replicate (n - (CV.ref 0 :: args).length) none) ⟨0, [.ins c []]⟩ = body (some (.ref 0) :: args.map some ++ List.replicate (n - (args.length + 1)) none) ⟨0, [.ins c []]⟩ := rfl
  rw [eb]
  revert z
  generalize body (some (.ref 0) :: args.map some ++ List.replicate (n - (args.length + 1)) none) ⟨0, [.ins c []]⟩ = r
  intro z
  cases q with
  | stuck => trivial
  | exc d fs => obtain ⟨env', hp', e⟩ := z; subst e; exact rfl
  | ok x =>
    obtain ⟨c', fs, env', fl', rest, e, e1, l⟩ := z
    obtain ⟨fs', e2⟩ := hc x
    rw [e2] at e1
    cases e1
    rcases e with e | e
    · subst e
      simp only [Nat.beq_refl, l, Bool.and_self, if_true]
      exact ⟨_, rfl, e2.symm⟩
    · subst e
      simp only [Nat.beq_refl, l, Bool.and_self, if_true]
      exact ⟨_, rfl, e2.symm⟩
theorem n_make {c : Nat} {f : Fn} {ms : List (M CV)} {rel : γ → CV → Prop} {q : An γ} (h : Ex sp os (fun env hp => (evA ms env hp).bind (mkZ c f)) rel q) : Ex sp os (eMakeZ c f ms) rel q := h
theorem s_fldP {tab : List (List Nat)} {q n c : Nat} {i : Nat} {mv : M CV} {e : α → CV} [Fz e] {fs : List (Nat × CV)} {x : α} (hv : Ex sp os mv (Is e) (.ok x)) (hr : Ss sp (os.set n (.ins c (putC q (e x) fs))) rest p post) (h : sp[i]? = some (some (.ref n)) := by rfl) (ho : os[n]? = some (.ins c fs) := by rfl) (ht : hasF tab c q = true := by rfl) (hl : decide (fs.length < 1000) = true := by rfl) :
    Ss sp os (sSeq (sFldC tab q (eVar i) mv) rest) p post := by
  haveI : Fz (fun _ : Unit => e x) := ⟨fun _ => Fz.lim (e := e) x⟩
  have z := s_fld (e := fun _ : Unit => e x) (qv := .ok ()) (k := fun _ => p) (rest := rest) (post := post) (tab := tab) (q := q) (mv := mv) (sp := sp) (os := os) (fs := fs) (n := n) (c := c) (i := i) (fun env fl t l => hv env fl t l) (fun _ => hr) h ho ht hl
  exact z
/-! ### refusals told -/
/-- told to be refused, and how -/
def toldA (xm : Nat → Nat → Option Bool) : List (Nat × List Nat) → Nat → An (List Nat)
  | [], _ => .stuck
  | (d, s) :: r, c => match xm c d with
    | some true => .ok s
    | some false => toldA xm r c
    | none => .stuck
def refusedA {α : Type} (xm : Nat → Nat → Option Bool) (hs : List (Nat × List Nat)) (p : An α) : An (List Nat) := match p with
  | .ok _ => .stuck
  | .exc c _ => toldA xm hs c
  | .stuck => .stuck
theorem toldA_gi {xm : Nat → Nat → Option Bool} {c : Nat} {hp : Hc} : ∀ hs : List (Nat × List Nat), Gi (toldA xm hs c) (Is CV.str) hp (toldR xm hs c hp)
  | [] => trivial
  | (d, s) :: r => by
    unfold toldA toldR
    cases xm c d with
    | none => trivial
    | some b => cases b
                · exact toldA_gi r
                · exact ⟨_, rfl, rfl⟩
theorem n_told {xm : Nat → Nat → Option Bool} {hs : List (Nat × List Nat)} {m : M CV} {p : An α} {rel : α → CV → Prop} (h : Ex sp os m rel p) : Ex sp os (eTold xm hs m) (Is CV.str) (refusedA xm hs p) := fun env fl t l => by
  have z := h env fl t l
  cases p with
  | ok a => trivial
  | stuck => trivial
  | exc c fs =>
    have e : m env ⟨fl, os ++ t⟩ = .exc c fs ⟨fl, os ++ t⟩ := z
    unfold eTold
    rw [e]
    exact toldA_gi hs
end
end Bl
namespace Bl
section
variable {α β γ : Type} {sp : En} {os : List CO}
theorem i_seq {e : α → CV} {m : M CV} {p : An (List α)} (h : Ex sp os m (Sf e) p) : Ex sp os (mIt m itAny) (Wk e) p := by
  have z := i_any h
  rwa [An.bind_ok] at z
theorem n_tupL {e : α → CV} {m : M CV} {p : An (List α)} (h : Ex sp os m (Sl os e) p) : Ex sp os (eBi bTuple [m]) (Is (eTs e)) p := by
  have z := n_tupleL h
  rwa [An.bind_ok] at z
theorem n_intJ {m : M CV} {p : An Int} (h : Ex sp os m rI p) : Ex sp os (eBi bInt [m]) rI p := by
  have z := n_intI h
  rwa [An.bind_ok] at z
def tupV (vs : List CV) (hp : Hc) : R CV := if okLen vs.length = true then .ok (.tup vs) hp else .stuck
theorem n_tup1 {e1 : α → CV} {m1 : M CV} {p1 : An α} (h1 : Ex sp os m1 (Is e1) p1) : Ex sp os (eTup [m1]) (Is (eT1 e1)) p1 := by
  have z : Ex sp os (eTup [m1]) (Is (eT1 e1)) (p1.bind fun a => .ok a) := av_cons (k := tupV) h1 fun a => av_nil (q := .ok a) (rel := Is (eT1 e1)) fun fl t => ⟨_, rfl, rfl⟩
  rwa [An.bind_ok] at z
theorem n_tup2 {α1 α2 : Type} {e1 : α1 → CV} {e2 : α2 → CV} {m1 m2 : M CV} {p1 : An α1} {p2 : An α2} (h1 : Ex sp os m1 (Is e1) p1) (h2 : Ex sp os m2 (Is e2) p2) : Ex sp os (eTup [m1, m2]) (Is (eT2 e1 e2)) (p1.bind fun a => p2.bind fun b => .ok (a, b)) :=
  av_cons (k := tupV) h1 fun a => av_cons h2 fun b => av_nil (q := .ok (a, b)) (rel := Is (eT2 e1 e2)) fun fl t => ⟨_, rfl, rfl⟩
theorem n_tup3 {α1 α2 α3 : Type} {e1 : α1 → CV} {e2 : α2 → CV} {e3 : α3 → CV} {m1 m2 m3 : M CV} {p1 : An α1} {p2 : An α2} {p3 : An α3} (h1 : Ex sp os m1 (Is e1) p1) (h2 : Ex sp os m2 (Is e2) p2) (h3 : Ex sp os m3 (Is e3) p3) : Ex sp os (eTup [m1, m2, m3]) (Is (eT3 e1 e2 e3)) (p1.bind fun a => p2.bind fun b => p3.bind fun c => .ok (a, b, c)) :=
  av_cons (k := tupV) h1 fun a => av_cons h2 fun b => av_cons h3 fun c => av_nil (q := .ok (a, b, c)) (rel := Is (eT3 e1 e2 e3)) fun fl t => ⟨_, rfl, rfl⟩
theorem n_tup4 {α1 α2 α3 α4 : Type} {e1 : α1 → CV} {e2 : α2 → CV} {e3 : α3 → CV} {e4 : α4 → CV} {m1 m2 m3 m4 : M CV} {p1 : An α1} {p2 : An α2} {p3 : An α3} {p4 : An α4} (h1 : Ex sp os m1 (Is e1) p1) (h2 : Ex sp os m2 (Is e2) p2) (h3 : Ex sp os m3 (Is e3) p3) (h4 : Ex sp os m4 (Is e4) p4) : Ex sp os (eTup [m1, m2, m3, m4]) (Is (eT4 e1 e2 e3 e4)) (p1.bind fun a => p2.bind fun b => p3.bind fun c => p4.bind fun d => .ok (a, b, c, d)) :=
  av_cons (k := tupV) h1 fun a => av_cons h2 fun b => av_cons h3 fun c => av_cons h4 fun d => av_nil (q := .ok (a, b, c, d)) (rel := Is (eT4 e1 e2 e3 e4)) fun fl t => ⟨_, rfl, rfl⟩
theorem n_tup0 {e : α → CV} : Ex sp os (eTup []) (Is (eTs e)) (.ok []) := n_tupS al_nil
/-- said to be any tuple -/
theorem n_wkS {e : α → CV} {m : M CV} {p : An (List α)} (h : Ex sp os m (Is (eTs e)) p) : Ex sp os (eWk m) (Is (eWs e)) p := fun env fl t l => by
  have z := Gi.bind (k := fun v hp => R.ok (wkV v) hp) (q := fun xs => .ok xs) (rel2 := Is (eWs e)) (h env fl t l) fun a v e' => by cases e'; exact ⟨_, rfl, rfl⟩
  rwa [An.bind_ok] at z
theorem n_wk2 {α1 α2 : Type} {e1 : α1 → CV} {e2 : α2 → CV} {m : M CV} {p : An (α1 × α2)} (h : Ex sp os m (Is (eT2 e1 e2)) p) : Ex sp os (eWk m) (Is (eW2 e1 e2)) p := fun env fl t l => by
  have z := Gi.bind (k := fun v hp => R.ok (wkV v) hp) (q := fun xs => .ok xs) (rel2 := Is (eW2 e1 e2)) (h env fl t l) fun a v e' => by cases e'; exact ⟨_, rfl, rfl⟩
  rwa [An.bind_ok] at z
end
end Bl

/-! Native layer, part G: more rules. -/
namespace Bl
open PySem PySem.Spec PyProof.Rows L2
section
variable {α β γ δ κ σ ρ : Type} {sp sp1 : En} {os : List CO} {fl : Nat} {hp : Hc} {rest : MS} {p : An κ} {post : κ → RS → Prop}
/-- on with the state, or out with an answer -/
def lpK (k : σ → An κ) (kr : ρ → κ) : Lp σ ρ → An κ
  | .nx s => k s
  | .bk _ => .stuck
  | .rt y => .ok (kr y)
theorem Ss.eqN {s : MS} {p q : An κ} (h : Ss sp os s p post) (e : p = q) : Ss sp os s q post := e ▸ h
theorem s_forLK {e : α → CV} {mi : M ITc} {tg : Tgt} {body : MS} {st : σ → En × List CO} {A : ρ → CV → Hc → Prop} {kr : ρ → κ} [RtP post A kr] {spx : σ → α → En} {f : σ → α → An (Lp σ ρ)} {px : An (List α)} {s0 : σ} {k : σ → An κ} (hi : Ex sp os mi (Wk e) px) (l0 : LeP (st s0).1 sp) (o0 : os = (st s0).2)
    (htg : ∀ s x, TgP tg (e x) (st s).1 (spx s x)) (hb : ∀ s x, Ss (spx s x) (st s).2 body (f s x) (postL st A)) (hr : ∀ s, Ss (st s).1 (st s).2 rest (k s) post) :
    Ss sp os (sSeq (sFor mi tg body) rest) (px.bind fun xs => (forL f s0 xs).bind (lpK k kr)) post := (s_forL (kr := kr) hi l0 o0 htg hb hr).eqN (by
  congr 1)
theorem s_joinRK {a : MS} {st : σ → En × List CO} {A : ρ → CV → Hc → Prop} {kr : ρ → κ} [RtP post A kr] {q : An (Lp σ ρ)} {k : σ → An κ} (h : Ss sp os a q (postJ st A)) (hr : ∀ s, Ss (st s).1 (st s).2 rest (k s) post) : Ss sp os (sSeq a rest) (q.bind (lpK k kr)) post := (s_joinR (kr := kr) h hr).eqN (by
  congr 1)
/-! ### two ints -/
theorem n_bi2 {f : List CV → Hc → R CV} {m1 m2 : M CV} {r1 : α → CV → Prop} {r2 : β → CV → Prop} {p1 : An α} {p2 : An β} {q : α → β → An γ} {rel : γ → CV → Prop} (h1 : Ex sp os m1 r1 p1) (h2 : Ex sp os m2 r2 p2) (hf : ∀ a b v w fl t, r1 a v → r2 b w → Gi (q a b) rel ⟨fl, os ++ t⟩ (f [v, w] ⟨fl, os ++ t⟩)) : Ex sp os (eBi f [m1, m2]) rel (p1.bind fun a => p2.bind fun b => q a b) := fun env fl t l => by
  have z := Gi.bind (k := f) (q := fun (x : α × β) => q x.1 x.2) (rel2 := rel) (a_two h1 h2 env fl t l) fun x vs ⟨v, w, e1, z1, z2⟩ => by subst e1; exact hf x.1 x.2 v w fl t z1 z2
  have e1 : ((p1.bind fun a => p2.bind fun b => An.ok (a, b)).bind fun x => q x.1 x.2) = p1.bind fun a => p2.bind fun b => q a b := by
    rw [An.bind_assoc]; congr 1; funext a; rw [An.bind_assoc]; rfl
  rw [e1] at z
  exact z
theorem n_max2 {m1 m2 : M CV} {p q : An Int} (h1 : Ex sp os m1 rI p) (h2 : Ex sp os m2 rI q) : Ex sp os (eBi bMax2 [m1, m2]) rI (p.bind fun x => q.bind fun y => .ok (if y > x then y else x)) := n_bi2 h1 h2 fun a b v w fl t z1 z2 => by cases z1; cases z2; exact ⟨_, rfl, rfl⟩
theorem n_min2 {m1 m2 : M CV} {p q : An Int} (h1 : Ex sp os m1 rI p) (h2 : Ex sp os m2 rI q) : Ex sp os (eBi bMin2 [m1, m2]) rI (p.bind fun x => q.bind fun y => .ok (if y < x then y else x)) := n_bi2 h1 h2 fun a b v w fl t z1 z2 => by cases z1; cases z2; exact ⟨_, rfl, rfl⟩
/-! ### a new list, frozen -/
theorem scop_new {m : M CV} {env : En} {o : List CO} {fl : Nat} {ys : List CV} (h : m env ⟨o.length, o⟩ = newL ys ⟨o.length, o⟩) (hl : okLen ys.length = true) (lim : limL 0 ys = true) : scopM m env ⟨fl, o⟩ = .ok (.lst ys) ⟨fl, o⟩ := by
  refine scop_ok (t' := [.lst ys]) (fl' := o.length) (v := .ref o.length) (w := .lst ys) ?_ ?_
  · rw [h]
    unfold newL
    rw [if_pos hl]
    rfl
  · refine frzV_lst (Nat.le_refl _) ?_ lim
    rw [List.getElem?_append_right (Nat.le_refl _), Nat.sub_self]
    rfl
/-- list plus list -/
theorem scop_e2 {f : CV → CV → Hc → R CV} {ma mb : M CV} {ra : α → CV → Prop} {rb : β → CV → Prop} {p : An α} {q : An β} {e : γ → CV} [Fz e] {g : α → β → List γ} (ha : Ex sp os ma ra p) (hb : Ex sp os mb rb q) (hf : ∀ a b v w fl t, ra a v → rb b w → f v w ⟨fl, os ++ t⟩ = newL ((g a b).map e) ⟨fl, os ++ t⟩) :
    Ex sp os (scopM (e2 f ma mb)) (Is (eLs e)) (p.bind fun a => q.bind fun b => okL (g a b)) := fun env fl t l => by
  have z1 := ha env (os ++ t).length t l
  have z2 := hb env (os ++ t).length t l
  cases p with
  | stuck => trivial
  | exc c fs =>
    refine scop_exc (t' := []) (fl' := (os ++ t).length) ?_
    unfold e2
    rw [show ma env ⟨(os ++ t).length, os ++ t⟩ = _ from z1, List.append_nil]
    rfl
  | ok a =>
    obtain ⟨v, e1, q1⟩ := z1
    cases q with
    | stuck => trivial
    | exc c fs =>
      refine scop_exc (t' := []) (fl' := (os ++ t).length) ?_
      unfold e2
      rw [e1]
      show R.bind (mb env ⟨(os ++ t).length, os ++ t⟩) _ = _
      rw [show mb env ⟨(os ++ t).length, os ++ t⟩ = _ from z2, List.append_nil]
      rfl
    | ok b =>
      obtain ⟨w, e2', q2⟩ := z2
      show Gi (okL (g a b)) _ _ _
      unfold okL
      cases hl : okLen (g a b).length with
      | false => trivial
      | true =>
        refine ⟨_, scop_new (ys := (g a b).map e) ?_ (by rw [List.length_map]; exact hl) (fz_map e _), rfl⟩
        unfold e2
        rw [e1]
        show R.bind (mb env ⟨(os ++ t).length, os ++ t⟩) _ = _
        rw [e2']
        exact hf a b v w _ t q1 q2
theorem n_catL {e : α → CV} [Fz e] {ma mb : M CV} {p q : An (List α)} (ha : Ex sp os ma (Is (eLs e)) p) (hb : Ex sp os mb (Is (eLs e)) q) : Ex sp os (scopM (e2 vAdd ma mb)) (Is (eLs e)) (p.bind fun a => q.bind fun b => okL (a ++ b)) :=
  scop_e2 (g := fun a b => a ++ b) ha hb fun a b v w fl t z1 z2 => by
    cases z1; cases z2
    show newL (a.map e ++ b.map e) _ = _
    rw [List.map_append]
/-! ### sorted -/
/-- what sorted reads -/
def Rq (os : List CO) (e : α → CV) (xs : List α) (v : CV) : Prop := ∀ fl t, rowsOf ⟨fl, os ++ t⟩ v = some (xs.map e)
theorem r_sq {e : α → CV} {m : M CV} {p : An (List α)} (h : Ex sp os m (Sq os e) p) : Ex sp os m (Rq os e) p := h.imp fun xs v z fl t => by
  unfold rowsOf
  rw [z.1 fl t]
theorem r_dq {t : Bool} {ek : α → CV} {ev : β → CV} {m : M CV} {p : An (List (α × β))} (h : Ex sp os m (Dq os t ek ev) p) : Ex sp os m (Rq os ek) (p.bind fun kvs => .ok (kvs.map Prod.fst)) := fun env fl s l => by
  have z := h env fl s l
  cases p with
  | stuck => trivial
  | exc c fs => exact z
  | ok kvs =>
    obtain ⟨v, e1, q⟩ := z
    refine ⟨v, e1, fun fl s => ?_⟩
    obtain ⟨h1, h2⟩ := q.1 fl s
    unfold rowsOf
    rw [h2, h1]
    simp [List.map_map, Function.comp_def]
theorem intsC_map : ∀ xs : List Int, intsC (xs.map CV.int) = some xs
  | [] => rfl
  | x :: xs => by
    show (intsC (xs.map CV.int)).map (x :: ·) = _
    rw [intsC_map xs]; rfl
theorem pairsC_map : ∀ xs : List (Int × Int), pairsC (xs.map (eT2 CV.int CV.int)) = some xs
  | [] => rfl
  | x :: xs => by
    show (pairsC (xs.map (eT2 CV.int CV.int))).map ((x.1, x.2) :: ·) = _
    rw [pairsC_map xs]; rfl
theorem insB_len {le : α → α → Bool} (a : α) : ∀ xs : List α, (insB le a xs).length = xs.length + 1
  | [] => rfl
  | x :: xs => by
    unfold insB
    split
    · rfl
    · show (insB le a xs).length + 1 = _
      rw [insB_len a xs]; rfl
theorem sortB_len {le : α → α → Bool} : ∀ xs : List α, (sortB le xs).length = xs.length
  | [] => rfl
  | x :: xs => by
    unfold sortB
    rw [insB_len, sortB_len xs]; rfl
theorem n_scop1 {f : List CV → Hc → R CV} {m : M CV} {ra : α → CV → Prop} {p : An α} {e : γ → CV} [Fz e] {g : α → List γ} (ha : Ex sp os m ra p) (hf : ∀ a v fl t, ra a v → f [v] ⟨fl, os ++ t⟩ = newL ((g a).map e) ⟨fl, os ++ t⟩) : Ex sp os (scopM (eBi f [m])) (Is (eLs e)) (p.bind fun a => okL (g a)) := fun env fl t l => by
  have z1 := ha env (os ++ t).length t l
  have ev : ∀ {r : R CV}, m env ⟨(os ++ t).length, os ++ t⟩ = r → eBi f [m] env ⟨(os ++ t).length, os ++ t⟩ = r.bind fun v hp => f [v] hp := fun h => by
    unfold eBi
    show R.bind (R.bind (m env ⟨(os ++ t).length, os ++ t⟩) _) _ = _
    rw [h, R.bind_assoc]
    rfl
  cases p with
  | stuck => trivial
  | exc c fs =>
    refine scop_exc (t' := []) (fl' := (os ++ t).length) ?_
    rw [ev z1, List.append_nil]
    rfl
  | ok a =>
    obtain ⟨v, e1, q1⟩ := z1
    show Gi (okL (g a)) _ _ _
    unfold okL
    cases hl : okLen (g a).length with
    | false => trivial
    | true =>
      refine ⟨_, scop_new (ys := (g a).map e) ?_ (by rw [List.length_map]; exact hl) (fz_map e _), rfl⟩
      rw [ev e1]
      exact hf a v _ t q1
theorem n_sortI {m : M CV} {p : An (List Int)} (h : Ex sp os m (Rq os CV.int) p) : Ex sp os (scopM (eBi bSorted [m])) (Is (eLs CV.int)) (p.bind fun xs => okL (sortB leI xs)) := n_scop1 (g := fun xs => sortB leI xs) h fun a v fl t z => by
  unfold bSorted
  simp only [z fl t, intsC_map]
theorem intsC_pair : ∀ xs : List (Int × Int), xs ≠ [] → intsC (xs.map (eT2 CV.int CV.int)) = none
  | [], h => absurd rfl h
  | x :: xs, _ => rfl
theorem n_sortP {m : M CV} {p : An (List (Int × Int))} (h : Ex sp os m (Rq os (eT2 CV.int CV.int)) p) : Ex sp os (scopM (eBi bSorted [m])) (Is (eLs (eT2 CV.int CV.int))) (p.bind fun xs => okL (sortB leP xs)) := n_scop1 (g := fun xs => sortB leP xs) h fun a v fl t z => by
  unfold bSorted
  simp only [z fl t]
  cases a with
  | nil => rfl
  | cons x xs =>
    rw [intsC_pair (x :: xs) (by simp), pairsC_map]
    rfl
/-! ### dicts made at once -/
def putA [DecidableEq κ] : List (κ × β) → List (κ × β) → List (κ × β)
  | acc, [] => acc
  | acc, (k, v) :: r => putA (nput k v acc) r
def okD (ys : List α) : An (List α) := grd (okA ys.length) (.ok ys)
theorem nrepl_len [DecidableEq κ] {k : κ} {v : β} : ∀ kvs : List (κ × β), (nrepl k v kvs).length = kvs.length
  | [] => rfl
  | (a, x) :: r => congrArg (· + 1) (nrepl_len r)
theorem nput_len [DecidableEq κ] {k : κ} {v : β} {kvs : List (κ × β)} : kvs.length ≤ (nput k v kvs).length := by
  unfold nput
  split
  · rw [nrepl_len]; exact Nat.le_refl _
  · simp
theorem putH_map [DecidableEq κ] {t : Bool} {ek : κ → CV} {ev : β → CV} [Ky t ek] [Fz ev] {o : List CO} {fl n : Nat} {kvs : List (κ × β)} (ho : o[n]? = some (.dic t (kvs.map (eKV ek ev)))) (hl : kvs.length < 16777216) (x : κ) (y : β) : putH (.ref n) (ek x) (ev y) ⟨fl, o⟩ = some ⟨fl, o.set n (.dic t ((nput x y kvs).map (eKV ek ev)))⟩ := by
  unfold putH
  have pm := put_map (t := t) (ek := ek) (ev := ev) x y kvs
  have lim : ∀ ys : List (κ × β), limK (n + 1) (ys.map (eKV ek ev)) = true := fun ys => limK_mono (Nat.zero_le _) _ (fz_mapK ys)
  cases t with
  | false =>
    have pm' : putD kEq (ek x) (ev y) (kvs.map (eKV ek ev)) = _ := pm
    simp only [ho, Ky.kf (t := false) (e := ek) rfl x, if_true, pm', lim, Bool.not_true, Bool.and_false, Bool.false_eq_true, if_false, List.length_map]
    rw [if_pos (decide_eq_true hl)]
    rfl
  | true =>
    have pm' : putD tEq (ek x) (ev y) (kvs.map (eKV ek ev)) = _ := pm
    simp only [ho, Ky.kt (t := true) (e := ek) rfl x, if_true, pm', lim, Bool.not_true, Bool.and_false, Bool.false_eq_true, if_false, List.length_map]
    rw [if_pos (decide_eq_true hl)]
    rfl
theorem putA_len [DecidableEq κ] : ∀ (r acc : List (κ × β)), acc.length ≤ (putA acc r).length
  | [], acc => Nat.le_refl _
  | (k, v) :: r, acc => Nat.le_trans nput_len (putA_len r (nput k v acc))
theorem set_at {o : List CO} {c d : CO} : (o ++ [c]).set o.length d = o ++ [d] := by simp [List.set_append_right]
theorem at_end {o : List CO} {c : CO} : (o ++ [c])[o.length]? = some c := by
  rw [List.getElem?_append_right (Nat.le_refl _), Nat.sub_self]; rfl
theorem dictN_run [DecidableEq κ] {t : Bool} {ek : κ → CV} {ev : β → CV} [Ky t ek] [Fz ev] {o : List CO} {fl : Nat} : ∀ (r acc : List (κ × β)), (putA acc r).length < 16777216 → dictN o.length (r.map (eT2 ek ev)) ⟨fl, o ++ [.dic t (acc.map (eKV ek ev))]⟩ = some ⟨fl, o ++ [.dic t ((putA acc r).map (eKV ek ev))]⟩
  | [], acc, _ => rfl
  | (k, v) :: r, acc, h => by
    have hl : acc.length < 16777216 := Nat.lt_of_le_of_lt (putA_len ((k, v) :: r) acc) h
    have e1 := putH_map (t := t) (ek := ek) (ev := ev) (fl := fl) (at_end (o := o)) hl k v
    rw [set_at] at e1
    show (match putH (.ref o.length) (ek k) (ev v) ⟨fl, o ++ [.dic t (acc.map (eKV ek ev))]⟩ with | some hp' => dictN o.length (r.map (eT2 ek ev)) hp' | none => none) = _
    rw [e1]
    exact dictN_run r (nput k v acc) h
theorem n_dict [DecidableEq κ] {t : Bool} {ek : κ → CV} {ev : β → CV} [Ky t ek] [Fz ev] {m : M CV} {p : An (List (κ × β))} (h : Ex sp os m (Is (eLs (eT2 ek ev))) p) : Ex sp os (scopM (eBi (bDict t) [m])) (Is (eDt t ek ev)) (p.bind fun xs => okD (putA [] xs)) := fun env fl s l => by
  have z1 := h env (os ++ s).length s l
  have ev' : ∀ {r : R CV}, m env ⟨(os ++ s).length, os ++ s⟩ = r → eBi (bDict t) [m] env ⟨(os ++ s).length, os ++ s⟩ = r.bind fun v hp => bDict t [v] hp := fun h => by
    unfold eBi
    show R.bind (R.bind (m env ⟨(os ++ s).length, os ++ s⟩) _) _ = _
    rw [h, R.bind_assoc]
    rfl
  cases p with
  | stuck => trivial
  | exc c fs =>
    refine scop_exc (t' := []) (fl' := (os ++ s).length) ?_
    rw [ev' z1, List.append_nil]
    rfl
  | ok xs =>
    obtain ⟨v, e1, q1⟩ := z1
    cases q1
    show Gi (okD (putA [] xs)) _ _ _
    unfold okD
    cases hl : okA (putA [] xs).length with
    | false => trivial
    | true =>
      have run := dictN_run (t := t) (ek := ek) (ev := ev) (o := os ++ s) (fl := (os ++ s).length) xs [] (of_decide_eq_true hl)
      refine ⟨_, scop_ok (t' := [.dic t ((putA [] xs).map (eKV ek ev))]) (fl' := (os ++ s).length) (v := .ref (os ++ s).length) (w := .dct t ((putA [] xs).map (eKV ek ev))) ?_ ?_, rfl⟩
      · rw [ev' e1]
        show (match dictN (os ++ s).length (xs.map (eT2 ek ev)) ⟨(os ++ s).length, (os ++ s) ++ [.dic t []]⟩ with | some hp' => R.ok (CV.ref (os ++ s).length) hp' | none => .stuck) = _
        rw [show (CO.dic t []) = .dic t (([] : List (κ × β)).map (eKV ek ev)) from rfl, run]
      · exact frzV_dic (Nat.le_refl _) at_end (fz_mapK (ek := ek) (ev := ev) _)
/-- a dict comprehension -/
def dcA [DecidableEq κ] (c : α → An Bool) (fk : α → An κ) (fv : α → An β) : List (κ × β) → List α → An (List (κ × β))
  | acc, [] => .ok acc
  | acc, x :: r => match c x with
    | .ok true => match fk x with
      | .ok k => match fv x with
        | .ok v => dcA c fk fv (nput k v acc) r
        | _ => .stuck
      | _ => .stuck
    | .ok false => dcA c fk fv acc r
    | _ => .stuck
theorem dcA_exc [DecidableEq κ] {c : α → An Bool} {fk : α → An κ} {fv : α → An β} {d : Nat} {fs : List (Nat × CV)} : ∀ (r : List α) (acc : List (κ × β)), dcA c fk fv acc r ≠ .exc d fs
  | [], _, h => by cases h
  | x :: r, acc, hy => by
    unfold dcA at hy
    split at hy
    · split at hy
      · split at hy
        · exact dcA_exc r _ hy
        · cases hy
      · cases hy
    · exact dcA_exc r _ hy
    · cases hy
theorem dcA_len [DecidableEq κ] {c : α → An Bool} {fk : α → An κ} {fv : α → An β} : ∀ (r : List α) (acc ys : List (κ × β)), dcA c fk fv acc r = .ok ys → acc.length ≤ ys.length
  | [], acc, ys, h => by cases h; exact Nat.le_refl _
  | x :: r, acc, ys, hy => by
    unfold dcA at hy
    split at hy
    · split at hy
      · split at hy
        · exact Nat.le_trans nput_len (dcA_len r _ ys hy)
        · cases hy
      · cases hy
    · exact dcA_len r _ ys hy
    · cases hy
theorem dc_run [DecidableEq κ] {t : Bool} {ek : κ → CV} {ev : β → CV} [Ky t ek] [Fz ev] {e : α → CV} {xs : List α} {it : ITc} (w : Wk e xs it) {tg : Tgt} {tests : M Bool} {mk mv : M CV} {sp : En} {spx : α → En} {c : α → An Bool} {fk : α → An κ} {fv : α → An β} (htg : ∀ x, TgP tg (e x) sp (spx x)) (hc : ∀ x, Ex (spx x) os tests rT (c x)) (hk : ∀ x, Ex (spx x) os mk (Is ek) (fk x)) (hv : ∀ x, Ex (spx x) os mv (Is ev) (fv x))
    {env : En} (l : LeP sp env) {fl : Nat} {o s : List CO} (ho : o = os ++ s) :
    ∀ (r pre : List α) (acc ys : List (κ × β)) (n : Nat), xs = pre ++ r → dcA c fk fv acc r = .ok ys → r.length + 1 ≤ n → ys.length < 16777216 →
      dcN it.next tg tests mk mv env o.length n pre.length ⟨fl, o ++ [.dic t (acc.map (eKV ek ev))]⟩ = some ⟨fl, o ++ [.dic t (ys.map (eKV ek ev))]⟩ := by
  intro r
  induction r with
  | nil =>
    intro pre acc ys n hx hy hn hl
    cases n with
    | zero => omega
    | succ n =>
      have e1 := wk_at w hx ⟨fl, o ++ [.dic t (acc.map (eKV ek ev))]⟩
      unfold dcN
      rw [e1]
      cases hy
      rfl
  | cons x r ih =>
    intro pre acc ys n hx hy hn hl
    cases n with
    | zero => simp at hn
    | succ n =>
      have e1 := wk_at w hx ⟨fl, o ++ [.dic t (acc.map (eKV ek ev))]⟩
      have hx' : xs = (pre ++ [x]) ++ r := by rw [hx]; simp
      have len' : (pre ++ [x]).length = pre.length + 1 := by simp
      obtain ⟨env1, t1, l1⟩ := htg x env l
      have eh : (⟨fl, o ++ [.dic t (acc.map (eKV ek ev))]⟩ : Hc) = ⟨fl, os ++ (s ++ [.dic t (acc.map (eKV ek ev))])⟩ := by rw [ho, List.append_assoc]
      have tc := hc x env1 fl (s ++ [.dic t (acc.map (eKV ek ev))]) l1
      have tk := hk x env1 fl (s ++ [.dic t (acc.map (eKV ek ev))]) l1
      have tv := hv x env1 fl (s ++ [.dic t (acc.map (eKV ek ev))]) l1
      rw [← eh] at tc tk tv
      unfold dcN
      rw [e1]
      simp only [List.map_cons, List.getElem?_cons_zero, t1]
      unfold dcA at hy
      cases hcx : c x with
      | exc _ _ => rw [hcx] at hy; cases hy
      | stuck => rw [hcx] at hy; cases hy
      | ok b =>
        rw [hcx] at hy tc
        obtain ⟨b', eb1, eb2⟩ := tc
        cases eb2
        rw [eb1]
        cases b with
        | false =>
          simp only [id, Bool.false_eq_true, if_false]
          have z := ih (pre ++ [x]) acc ys n hx' hy (by simp at hn; omega) hl
          rw [len'] at z
          exact z
        | true =>
          simp only [id, if_true]
          cases hgx : fk x with
          | exc _ _ => rw [hgx] at hy; cases hy
          | stuck => rw [hgx] at hy; cases hy
          | ok q =>
            rw [hgx] at hy tk
            obtain ⟨v, ev1, ez⟩ := tk
            cases ez
            rw [ev1]
            cases hgv : fv x with
            | exc _ _ => rw [hgv] at hy; cases hy
            | stuck => rw [hgv] at hy; cases hy
            | ok y =>
              rw [hgv] at hy tv
              obtain ⟨v2, ev2, ez2⟩ := tv
              cases ez2
              simp only [ev2]
              have hl' : acc.length < 16777216 := Nat.lt_of_le_of_lt (Nat.le_trans nput_len (dcA_len r _ ys hy)) hl
              have ph := putH_map (t := t) (ek := ek) (ev := ev) (fl := fl) (at_end (o := o)) hl' q y
              rw [set_at] at ph
              simp only [ph]
              have z := ih (pre ++ [x]) (nput q y acc) ys n hx' hy (by simp at hn; omega) hl
              rw [len'] at z
              exact z
theorem n_dcomp [DecidableEq κ] {t : Bool} {ek : κ → CV} {ev : β → CV} [Ky t ek] [Fz ev] {e : α → CV} {mi : M ITc} {tg : Tgt} {tests : M Bool} {mk mv : M CV} {own : List Nat} {px : An (List α)} {spx : α → En} {c : α → An Bool} {fk : α → An κ} {fv : α → An β}
    (hi : Ex sp os mi (Wk e) px) (htg : ∀ x, TgP tg (e x) (wipeE sp own) (spx x)) (hc : ∀ x, Ex (spx x) os tests rT (c x)) (hk : ∀ x, Ex (spx x) os mk (Is ek) (fk x)) (hv : ∀ x, Ex (spx x) os mv (Is ev) (fv x)) :
    Ex sp os (scopM (eDComp t mi tg tests mk mv own)) (Is (eDt t ek ev)) (px.bind fun xs => (dcA c fk fv [] xs).bind okD) := fun env fl s l => by
  have z := hi env (os ++ s).length s l
  cases px with
  | stuck => trivial
  | exc d fs =>
    refine scop_exc (t' := []) (fl' := (os ++ s).length) ?_
    unfold eDComp
    rw [show mi env ⟨(os ++ s).length, os ++ s⟩ = _ from z, List.append_nil]
    rfl
  | ok xs =>
    obtain ⟨it, e1, w⟩ := z
    show Gi ((dcA c fk fv [] xs).bind okD) _ _ _
    cases hy : dcA c fk fv [] xs with
    | stuck => trivial
    | exc d fs => exact absurd hy (dcA_exc xs [])
    | ok ys =>
      show Gi (okD ys) _ _ _
      unfold okD
      cases hl : okA ys.length with
      | false => trivial
      | true =>
        have run := dc_run (t := t) w htg hc hk hv (l.wipe own) (fl := (os ++ s).length) (o := os ++ s) (s := s) rfl xs [] [] ys it.fuel rfl hy w.1 (of_decide_eq_true hl)
        refine ⟨_, scop_ok (t' := [.dic t (ys.map (eKV ek ev))]) (fl' := (os ++ s).length) (v := .ref (os ++ s).length) (w := .dct t (ys.map (eKV ek ev))) ?_ ?_, rfl⟩
        · unfold eDComp
          rw [e1]
          show (match dcN it.next tg tests mk mv (wipeE env own) (os ++ s).length it.fuel 0 ⟨(os ++ s).length, (os ++ s) ++ [.dic t []]⟩ with | some hp' => R.ok (CV.ref (os ++ s).length) hp' | none => .stuck) = _
          rw [show (0 : Nat) = ([] : List α).length from rfl, show (CO.dic t []) = .dic t (([] : List (κ × β)).map (eKV ek ev)) from rfl, run]
        · exact frzV_dic (Nat.le_refl _) at_end (fz_mapK (ek := ek) (ev := ev) _)
/-! ### ranges with a step -/
def rngS (i c : Int) (n : Nat) : List Int := (List.range n).map fun (k : Nat) => i + (k : Int) * c
def rng3 (i j c : Int) : An (List Int) := match rg3 [.int i, .int j, .int c] with
  | some (a, _, d, n) => .ok (rngS a d n)
  | none => .stuck
theorem wk_rngS (i c : Int) (n : Nat) : Wk CV.int (rngS i c n) (rngC i c n) := by
  refine ⟨by show _ ≤ n + 1; simp [rngS], fun k hp hk => ?_⟩
  have hk' : k ≤ n := by simpa [rngS] using hk
  show (if k ≤ n then some (if k < n then some (CV.int (i + (k : Nat) * c)) else none) else none) = _
  rw [if_pos hk']
  unfold rngS
  rw [List.map_map, List.getElem?_map]
  by_cases h : k < n
  · rw [if_pos h, List.getElem?_range h]; rfl
  · rw [if_neg h, List.getElem?_eq_none (by simpa using h)]; rfl
theorem a_three {α1 α2 α3 : Type} {m1 m2 m3 : M CV} {r1 : α1 → CV → Prop} {r2 : α2 → CV → Prop} {r3 : α3 → CV → Prop} {p1 : An α1} {p2 : An α2} {p3 : An α3} (h1 : Ex sp os m1 r1 p1) (h2 : Ex sp os m2 r2 p2) (h3 : Ex sp os m3 r3 p3) : Ex sp os (evA [m1, m2, m3]) (fun (x : α1 × α2 × α3) vs => ∃ u v w, vs = [u, v, w] ∧ r1 x.1 u ∧ r2 x.2.1 v ∧ r3 x.2.2 w) (p1.bind fun a => (p2.bind fun b => p3.bind fun c => .ok (b, c)).bind fun y => .ok (a, y)) :=
  h1.bind fun a v z => fun env fl t l => (a_two h2 h3 env fl t l).bind fun b vs w => by obtain ⟨v', w', rfl, w1, w2⟩ := w; exact ⟨_, rfl, v, v', w', rfl, z, w1, w2⟩
theorem i_r3q {m1 m2 m3 : M CV} {p q r : An Int} (h1 : Ex sp os m1 rI p) (h2 : Ex sp os m2 rI q) (h3 : Ex sp os m3 rI r) : Ex sp os (mIt (evA [m1, m2, m3]) itR3) (Wk CV.int) (p.bind fun a => q.bind fun b => r.bind fun c => rng3 a b c) := by
  have z := n_mIt (f := itR3) (q := fun (x : Int × Int × Int) => rng3 x.1 x.2.1 x.2.2) (e := CV.int) (a_three h1 h2 h3) fun x vs fl t ⟨u, v, w, e1, z1, z2, z3⟩ => by
    subst e1; cases z1; cases z2; cases z3
    unfold rng3
    have e2 : itR3 [.int x.1, .int x.2.1, .int x.2.2] ⟨fl, os ++ t⟩ = (match rg3 [.int x.1, .int x.2.1, .int x.2.2] with | some (i, _, c, n) => some (rngC i c n) | none => none) := rfl
    rw [e2]
    cases rg3 [.int x.1, .int x.2.1, .int x.2.2] with
    | none => trivial
    | some y => obtain ⟨a, b, d, n⟩ := y; exact ⟨_, rfl, wk_rngS a d n⟩
  have e1 : ((p.bind fun a => (q.bind fun b => r.bind fun c => An.ok (b, c)).bind fun y => An.ok (a, y)).bind fun x => rng3 x.1 x.2.1 x.2.2) = p.bind fun a => q.bind fun b => r.bind fun c => rng3 a b c := by
    cases p with
    | ok _ => cases q with
      | ok _ => cases r <;> rfl
      | exc _ _ => rfl
      | stuck => rfl
    | exc _ _ => rfl
    | stuck => rfl
  rw [e1] at z
  exact z
theorem i_enR {m1 m2 m3 : M CV} {p q r : An Int} (h1 : Ex sp os m1 rI p) (h2 : Ex sp os m2 rI q) (h3 : Ex sp os m3 rI r) : Ex sp os (mIt (evA [m1, m2, m3]) itEnR) (Wk (eT2 CV.int CV.int)) (p.bind fun a => q.bind fun b => r.bind fun c => (rng3 a b c).bind fun z => .ok (enumL 0 z)) := by
  have z := n_mIt (f := itEnR) (q := fun (x : Int × Int × Int) => (rng3 x.1 x.2.1 x.2.2).bind fun z => .ok (enumL 0 z)) (e := eT2 CV.int CV.int) (a_three h1 h2 h3) fun x vs fl t ⟨u, v, w, e1, z1, z2, z3⟩ => by
    subst e1; cases z1; cases z2; cases z3
    unfold rng3
    have e2 : itEnR [.int x.1, .int x.2.1, .int x.2.2] ⟨fl, os ++ t⟩ = (match rg3 [.int x.1, .int x.2.1, .int x.2.2] with | some (i, _, c, n) => some (enumI (rngC i c n)) | none => none) := rfl
    rw [e2]
    cases rg3 [.int x.1, .int x.2.1, .int x.2.2] with
    | none => trivial
    | some y => obtain ⟨a, b, d, n⟩ := y; exact ⟨_, rfl, wk_enum (wk_rngS a d n)⟩
  have e1 : ((p.bind fun a => (q.bind fun b => r.bind fun c => An.ok (b, c)).bind fun y => An.ok (a, y)).bind fun x => (rng3 x.1 x.2.1 x.2.2).bind fun z => .ok (enumL 0 z)) = p.bind fun a => q.bind fun b => r.bind fun c => (rng3 a b c).bind fun z => .ok (enumL 0 z) := by
    cases p with
    | ok _ => cases q with
      | ok _ => cases r <;> rfl
      | exc _ _ => rfl
      | stuck => rfl
    | exc _ _ => rfl
    | stuck => rfl
  rw [e1] at z
  exact z
end
end Bl

/-! Native layer, part H: the laws' dice go through expressions and blocks; the dice are the first object. -/
namespace Bl
open PySem PySem.Spec PyProof.Rows L2
abbrev Dice := Int × Int × Int
def diceO (d : Dice) : CO := .lst [.int d.1, .int d.2.1, .int d.2.2]
def rollN (d : Dice) (m : Int) : An (Int × Dice) := grd (decide (0 < m) && decide (m < 1073741824)) (.ok (rollV d.1 d.2.1 d.2.2 m, rollS d.1 d.2.1 d.2.2 m))
def An.bD {α κ : Type} (q : An (α × Dice)) (k : α → Dice → An κ) : An κ := match q with
  | .ok x => k x.1 x.2
  | .exc _ _ => .stuck
  | .stuck => .stuck
@[simp] theorem An.ok_bD {α κ : Type} (x : α) (d : Dice) (k : α → Dice → An κ) : (An.ok (x, d)).bD k = k x d := rfl
section
variable {α β γ δ κ σ ρ : Type} {sp sp1 : En} {os : List CO} {fl : Nat} {hp : Hc} {rest : MS} {p : An κ} {post : κ → RS → Prop} {d : Dice}
def Gd {α β : Type} (q : An (α × Dice)) (rel : α → β → Prop) (fl : Nat) (os : List CO) (r : R β) : Prop := match q with
  | .ok x => ∃ v, r = .ok v ⟨fl, diceO x.2 :: os⟩ ∧ rel x.1 v
  | .exc _ _ => True
  | .stuck => True
def Ed {α β : Type} (sp : En) (os : List CO) (d : Dice) (m : M β) (rel : α → β → Prop) (q : An (α × Dice)) : Prop := ∀ (env : En) (fl : Nat) (t : List CO), LeP sp env → Gd q rel fl (os ++ t) (m env ⟨fl, diceO d :: (os ++ t)⟩)
theorem Gd.bind {p : An (α × Dice)} {rel : α → β → Prop} {r : R β} {q : α → Dice → An (γ × Dice)} {rel2 : γ → δ → Prop} {k : β → Hc → R δ} (h : Gd p rel fl os r) (hk : ∀ a d v, rel a v → Gd (q a d) rel2 fl os (k v ⟨fl, diceO d :: os⟩)) : Gd (p.bD q) rel2 fl os (r.bind k) := by
  cases p with
  | ok x => obtain ⟨v, e, z⟩ := h; subst e; exact hk x.1 x.2 v z
  | exc c fs => trivial
  | stuck => trivial
theorem gd_of {p : An α} {rel : α → β → Prop} {r : R β} (h : Gi p rel ⟨fl, diceO d :: os⟩ r) : Gd (p.bind fun a => .ok (a, d)) rel fl os r := by
  cases p with
  | ok a => exact h
  | exc c fs => trivial
  | stuck => trivial
theorem d_pure {m : M β} {rel : α → β → Prop} {p : An α} (h : Ex sp (diceO d :: os) m rel p) : Ed sp os d m rel (p.bind fun a => .ok (a, d)) := fun env fl t l => gd_of (h env fl t l)
theorem d_roll {i : Nat} {em : M CV} {p : An Int} (hm : Ex sp (diceO d :: os) em rI p) (hi : sp[i]? = some (some (.ref 0)) := by rfl) : Ed sp os d (eBi gRoll [eVar i, em]) rI (p.bind fun m => rollN d m) := fun env fl t l => by
  have z := hm env fl t l
  have hv : eVar i env ⟨fl, diceO d :: (os ++ t)⟩ = .ok (.ref 0) ⟨fl, diceO d :: (os ++ t)⟩ := by unfold eVar; rw [l.get hi]
  cases p with
  | stuck => trivial
  | exc c fs => trivial
  | ok m =>
    obtain ⟨v, e1, e2⟩ := z
    cases e2
    have e3 : eBi gRoll [eVar i, em] env ⟨fl, diceO d :: (os ++ t)⟩ = gRoll [.ref 0, .int m] ⟨fl, diceO d :: (os ++ t)⟩ := by
      unfold eBi
      show R.bind (R.bind (eVar i env ⟨fl, diceO d :: (os ++ t)⟩) _) _ = _
      rw [hv]
      show R.bind (R.bind (R.bind (em env ⟨fl, diceO d :: (os ++ t)⟩) _) _) _ = _
      rw [show em env ⟨fl, diceO d :: (os ++ t)⟩ = _ from e1]
      rfl
    rw [e3]
    show Gd (rollN d m) _ _ _ _
    unfold rollN gRoll
    have e4 : ix3 0 (⟨fl, diceO d :: (os ++ t)⟩ : Hc).os = some (d.1, d.2.1, d.2.2) := rfl
    simp only [e4]
    cases hc : (decide (0 < m) && decide (m < 1073741824)) with
    | false => trivial
    | true => exact ⟨_, rfl, rfl⟩
theorem d_e2 {f : CV → CV → Hc → R CV} {ra : α → CV → Prop} {rb : β → CV → Prop} {rc : γ → CV → Prop} {op : α → β → An γ} {ma mb : M CV} {p : An (α × Dice)} {q : α → Dice → An (β × Dice)} (o : ∀ d, Op (diceO d :: os) f ra rb rc op) (ha : Ed sp os d ma ra p) (hb : ∀ a d, Ed sp os d mb rb (q a d)) :
    Ed sp os d (e2 f ma mb) rc (p.bD fun x d => (q x d).bD fun y d => (op x y).bind fun z => .ok (z, d)) := fun env fl t l =>
  (ha env fl t l).bind fun a d va za => (hb a d env fl t l).bind fun b d vb zb => gd_of (o d a b va vb fl t za zb)
theorem d_tV {m : M CV} {p : An (Bool × Dice)} (h : Ed sp os d m rB p) : Ed sp os d (tV m) rT p := fun env fl t l => by
  have z := h env fl t l
  unfold tV
  cases p with
  | stuck => trivial
  | exc c fs => trivial
  | ok x => obtain ⟨v, e, q⟩ := z; cases q; rw [e]; exact ⟨_, rfl, rfl⟩
theorem d_tNot {m : M Bool} {p : An (Bool × Dice)} (h : Ed sp os d m rT p) : Ed sp os d (tNot1 m) rT (p.bD fun b d => .ok (!b, d)) := fun env fl t l =>
  (h env fl t l).bind fun a d v z => by cases z; exact ⟨_, rfl, rfl⟩
theorem d_tAnd {a b : M Bool} {p : An (Bool × Dice)} {q : Dice → An (Bool × Dice)} (ha : Ed sp os d a rT p) (hb : ∀ d, Ed sp os d b rT (q d)) : Ed sp os d (tAnd2 a b) rT (p.bD fun c d => cond c (q d) (.ok (false, d))) := fun env fl t l =>
  (ha env fl t l).bind fun c d v z => by
    cases z
    cases c
    · exact ⟨_, rfl, rfl⟩
    · exact hb d env fl t l
theorem d_tOr {a b : M Bool} {p : An (Bool × Dice)} {q : Dice → An (Bool × Dice)} (ha : Ed sp os d a rT p) (hb : ∀ d, Ed sp os d b rT (q d)) : Ed sp os d (tOr2 a b) rT (p.bD fun c d => cond c (.ok (true, d)) (q d)) := fun env fl t l =>
  (ha env fl t l).bind fun c d v z => by
    cases z
    cases c
    · exact hb d env fl t l
    · exact ⟨_, rfl, rfl⟩
theorem d_and {a b : M CV} {p : An (Bool × Dice)} {q : Dice → An (Bool × Dice)} (ha : Ed sp os d a rB p) (hb : ∀ d, Ed sp os d b rB (q d)) : Ed sp os d (eAnd2 a b) rB (p.bD fun c d => cond c (q d) (.ok (false, d))) := fun env fl t l =>
  (ha env fl t l).bind fun c d v z => by
    cases z
    cases c
    · exact ⟨_, rfl, rfl⟩
    · exact hb d env fl t l
theorem d_or {a b : M CV} {p : An (Bool × Dice)} {q : Dice → An (Bool × Dice)} (ha : Ed sp os d a rB p) (hb : ∀ d, Ed sp os d b rB (q d)) : Ed sp os d (eOr2 a b) rB (p.bD fun c d => cond c (.ok (true, d)) (q d)) := fun env fl t l =>
  (ha env fl t l).bind fun c d v z => by
    cases z
    cases c
    · exact hb d env fl t l
    · exact ⟨_, rfl, rfl⟩
theorem d_if {c : M Bool} {a b : M CV} {rel : α → CV → Prop} {p : An (Bool × Dice)} {q q' : Dice → An (α × Dice)} (hc : Ed sp os d c rT p) (ha : ∀ d, Ed sp os d a rel (q d)) (hb : ∀ d, Ed sp os d b rel (q' d)) : Ed sp os d (eIf c a b) rel (p.bD fun x d => cond x (q d) (q' d)) := fun env fl t l =>
  (hc env fl t l).bind fun x d v z => by
    cases z
    cases x
    · exact hb d env fl t l
    · exact ha d env fl t l
/-! ### arguments -/
theorem dv_nil {k : List CV → Hc → R δ} {q : An (γ × Dice)} {rel : γ → δ → Prop} (h : ∀ fl t, Gd q rel fl (os ++ t) (k [] ⟨fl, diceO d :: (os ++ t)⟩)) : Ed sp os d (fun env hp => (evA [] env hp).bind k) rel q := fun env fl t l => h fl t
theorem evA_bind {m : M CV} {ms : List (M CV)} {env : En} {hp : Hc} {k : List CV → Hc → R δ} : (evA (m :: ms) env hp).bind k = (m env hp).bind fun v hp => (evA ms env hp).bind fun vs hp => k (v :: vs) hp := by
  show R.bind (R.bind _ _) _ = _
  rw [R.bind_assoc]
  congr 1
  funext v hp
  rw [R.bind_assoc]
  rfl
theorem dv_cons {k : List CV → Hc → R δ} {rel : γ → δ → Prop} {e : α → CV} {m : M CV} {ms : List (M CV)} {p : An (α × Dice)} {q : α → Dice → An (γ × Dice)} (h : Ed sp os d m (Is e) p) (hs : ∀ a d, Ed sp os d (fun env hp => (evA ms env hp).bind fun vs hp => k (e a :: vs) hp) rel (q a d)) : Ed sp os d (fun env hp => (evA (m :: ms) env hp).bind k) rel (p.bD q) := fun env fl t l => by
  show Gd _ _ _ _ ((evA (m :: ms) env _).bind k)
  rw [evA_bind]
  refine (h env fl t l).bind fun a d v z => ?_
  subst z
  exact hs a d env fl t l
theorem dv_consP {k : List CV → Hc → R δ} {rel : γ → δ → Prop} {e : α → CV} {m : M CV} {ms : List (M CV)} {x : α} {q : An (γ × Dice)} (h : Ex sp (diceO d :: os) m (Is e) (.ok x)) (hs : Ed sp os d (fun env hp => (evA ms env hp).bind fun vs hp => k (e x :: vs) hp) rel q) : Ed sp os d (fun env hp => (evA (m :: ms) env hp).bind k) rel q := fun env fl t l => by
  show Gd _ _ _ _ ((evA (m :: ms) env _).bind k)
  rw [evA_bind]
  obtain ⟨v, e1, z⟩ := h env fl t l
  subst z
  rw [show m env ⟨fl, diceO d :: (os ++ t)⟩ = _ from e1]
  exact hs env fl t l
theorem dv_dice {k : List CV → Hc → R δ} {rel : γ → δ → Prop} {i : Nat} {ms : List (M CV)} {q : An (γ × Dice)} (hs : Ed sp os d (fun env hp => (evA ms env hp).bind fun vs hp => k (.ref 0 :: vs) hp) rel q) (hi : sp[i]? = some (some (.ref 0)) := by rfl) : Ed sp os d (fun env hp => (evA (eVar i :: ms) env hp).bind k) rel q := fun env fl t l => by
  show Gd _ _ _ _ ((evA (eVar i :: ms) env _).bind k)
  rw [evA_bind]
  have hv : eVar i env ⟨fl, diceO d :: (os ++ t)⟩ = .ok (.ref 0) ⟨fl, diceO d :: (os ++ t)⟩ := by unfold eVar; rw [l.get hi]
  rw [hv]
  exact hs env fl t l
theorem d_call {f : List CV → Hc → R CV} {ms : List (M CV)} {rel : γ → CV → Prop} {q : An (γ × Dice)} (h : Ed sp os d (fun env hp => (evA ms env hp).bind f) rel q) : Ed sp os d (eBi f ms) rel q := h
theorem d_make {c : Nat} {f : Fn} {ms : List (M CV)} {rel : γ → CV → Prop} {q : An (γ × Dice)} (h : Ed sp os d (fun env hp => (evA ms env hp).bind (mkZ c f)) rel q) : Ed sp os d (eMakeZ c f ms) rel q := h
/-- a pure def's answer -/
theorem gd_fn {f : Fn} {args : List CV} {q : An α} {rel : α → CV → Prop} (h : ∀ hp, Gi q rel hp (f args hp)) (fl : Nat) (t : List CO) : Gd (q.bind fun a => .ok (a, d)) rel fl (os ++ t) (f args ⟨fl, diceO d :: (os ++ t)⟩) := gd_of (h _)
theorem gd_mk {c : Nat} {f : Fn} {args : List CV} {q : An α} {rel : α → CV → Prop} (h : ∀ hp, Gi q rel hp (mkZ c f args hp)) (fl : Nat) (t : List CO) : Gd (q.bind fun a => .ok (a, d)) rel fl (os ++ t) (mkZ c f args ⟨fl, diceO d :: (os ++ t)⟩) := gd_of (h _)
theorem dtup {ms : List (M CV)} {rel : γ → CV → Prop} {q : An (γ × Dice)} (h : Ed sp os d (fun env hp => (evA ms env hp).bind tupV) rel q) : Ed sp os d (eTup ms) rel q := h
theorem gd_tup {vs : List CV} {x : γ} {enc : γ → CV} (e : CV.tup vs = enc x) (hl : okLen vs.length = true := by rfl) (fl : Nat) (t : List CO) : Gd (.ok (x, d)) (Is enc) fl (os ++ t) (tupV vs ⟨fl, diceO d :: (os ++ t)⟩) := by
  refine ⟨_, ?_, rfl⟩
  unfold tupV
  rw [if_pos hl, e]
/-! ### index -/
theorem o_ixS {tabs : List WTab} {e : α → CV} : Op os (vIxX tabs) (Sq os e) rI (Is e) (fun xs i => .opt (atI xs i)) := fun xs i va vb fl t za zb => by
  cases zb
  have z := za.1 fl t
  have e1 : vIx va (.int i) ⟨fl, os ++ t⟩ = match atI (xs.map e) i with | some v => R.ok v ⟨fl, os ++ t⟩ | none => .stuck := by
    unfold vIx
    split
    · rename_i s j _ _ _ ; exact absurd rfl (za.2 _)
    · rename_i w; cases w
      rw [z]
      first | done | rfl
    · rename_i w _; exact (w i rfl).elim
  rw [atI_map] at e1
  show Gi (An.opt (atI xs i)) _ _ (match vIx va (.int i) ⟨fl, os ++ t⟩ with | .stuck => _ | r => r)
  rw [e1]
  cases atI xs i with
  | none => trivial
  | some x => exact ⟨_, rfl, rfl⟩
/-- a frozen row read at a threaded index -/
theorem d_ix {tabs : List WTab} {e : α → CV} {ma mi : M CV} {xs : List α} {q : An (Int × Dice)} (ha : Ex sp (diceO d :: os) ma (Sf e) (.ok xs)) (hi : Ed sp os d mi rI q) : Ed sp os d (e2 (vIxX tabs) ma mi) (Is e) (q.bD fun i d => (An.opt (atI xs i)).bind fun z => .ok (z, d)) := by
  intro env fl t l
  obtain ⟨v, e1, z⟩ := ha env fl t l
  unfold e2
  rw [show ma env ⟨fl, diceO d :: (os ++ t)⟩ = _ from e1]
  exact (hi env fl t l).bind fun i d v2 z2 => gd_of (o_ixS (os := diceO d :: os) (tabs := tabs) xs i v v2 fl t z.sq z2)
/-! ### walks -/
theorem di_r1 {m : M CV} {p : An (Int × Dice)} (h : Ed sp os d m rI p) : Ed sp os d (mIt (evA [m]) itR1) (Wk CV.int) (p.bD fun j d => grd (okR j) (.ok (rngL 0 j, d))) := fun env fl t l => by
  unfold mIt
  show Gd _ _ _ _ ((evA [m] env _).bind _)
  rw [evA_bind]
  refine (h env fl t l).bind fun a d v z => ?_
  cases z
  show Gd (grd (okR a) (.ok (rngL 0 a, d))) _ _ _ (match itR1 [CV.int a] ⟨fl, diceO d :: (os ++ t)⟩ with | some it => R.ok it ⟨fl, diceO d :: (os ++ t)⟩ | none => .stuck)
  have e1 : itR1 [CV.int a] ⟨fl, diceO d :: (os ++ t)⟩ = if okR a = true then some (rngI 0 a.toNat) else none := rfl
  rw [e1]
  cases hk : okR a with
  | false => trivial
  | true => exact ⟨_, rfl, by have := wk_rng 0 a; rwa [Int.sub_zero] at this⟩
/-! ### comprehensions -/
def compD (c : α → Dice → An (Bool × Dice)) (g : α → Dice → An (β × Dice)) : List α → Dice → An (List β × Dice)
  | [], d => .ok ([], d)
  | x :: r, d => match c x d with
    | .ok (true, d1) => match g x d1 with
      | .ok (y, d2) => match compD c g r d2 with
        | .ok (ys, d3) => .ok (y :: ys, d3)
        | _ => .stuck
      | _ => .stuck
    | .ok (false, d1) => compD c g r d1
    | _ => .stuck
def okLD (ys : List α) (d : Dice) : An (List α × Dice) := grd (okLen ys.length) (.ok (ys, d))
theorem compD_exc {c : α → Dice → An (Bool × Dice)} {g : α → Dice → An (β × Dice)} {x : Nat} {fs : List (Nat × CV)} : ∀ (xs : List α) (d : Dice), compD c g xs d ≠ .exc x fs
  | [], d, h => by cases h
  | x :: r, d, hy => by
    unfold compD at hy
    split at hy
    · split at hy
      · split at hy <;> cases hy
      · cases hy
    · exact compD_exc r _ hy
    · cases hy
theorem compD_run {e : α → CV} {eb : β → CV} {xs : List α} {it : ITc} (w : Wk e xs it) {tg : Tgt} {tests : M Bool} {elt : M CV} {sp : En} {spx : α → En} {c : α → Dice → An (Bool × Dice)} {g : α → Dice → An (β × Dice)} (htg : ∀ x, TgP tg (e x) sp (spx x)) (hc : ∀ x d, Ed (spx x) os d tests rT (c x d)) (hg : ∀ x d, Ed (spx x) os d elt (Is eb) (g x d))
    {env : En} (l : LeP sp env) {fl : Nat} {o t : List CO} (ho : o = os ++ t) (hfl : fl ≤ o.length + 1) :
    ∀ (r pre : List α) (d d' : Dice) (acc : List CV) (ys : List β) (n : Nat), xs = pre ++ r → compD c g r d = .ok (ys, d') → r.length + 1 ≤ n → acc.length + ys.length ≤ 16777216 →
      compN it.next tg tests elt env (o.length + 1) n pre.length ⟨fl, diceO d :: (o ++ [.lst acc])⟩ = some ⟨fl, diceO d' :: (o ++ [.lst (acc ++ ys.map eb)])⟩ := by
  intro r
  induction r with
  | nil =>
    intro pre d d' acc ys n hx hy hn hl
    cases n with
    | zero => omega
    | succ n =>
      have e1 := wk_at w hx ⟨fl, diceO d :: (o ++ [.lst acc])⟩
      unfold compN
      rw [e1]
      cases hy
      simp
  | cons x r ih =>
    intro pre d d' acc ys n hx hy hn hl
    cases n with
    | zero => simp at hn
    | succ n =>
      have e1 := wk_at w hx ⟨fl, diceO d :: (o ++ [.lst acc])⟩
      have hx' : xs = (pre ++ [x]) ++ r := by rw [hx]; simp
      have len' : (pre ++ [x]).length = pre.length + 1 := by simp
      obtain ⟨env1, t1, l1⟩ := htg x env l
      have eh : ∀ d : Dice, (⟨fl, diceO d :: (o ++ [.lst acc])⟩ : Hc) = ⟨fl, diceO d :: (os ++ (t ++ [.lst acc]))⟩ := fun d => by rw [ho, List.append_assoc]
      have tc := hc x d env1 fl (t ++ [.lst acc]) l1
      rw [← eh] at tc
      unfold compN
      rw [e1]
      simp only [List.map_cons, List.getElem?_cons_zero, t1]
      unfold compD at hy
      cases hcx : c x d with
      | exc _ _ => rw [hcx] at hy; cases hy
      | stuck => rw [hcx] at hy; cases hy
      | ok bd =>
        obtain ⟨b, d1⟩ := bd
        rw [hcx] at hy tc
        obtain ⟨b', eb1, eb2⟩ := tc
        cases eb2
        have eb1' : tests env1 ⟨fl, diceO d :: (o ++ [.lst acc])⟩ = .ok b ⟨fl, diceO d1 :: (o ++ [.lst acc])⟩ := by rw [eb1, eh d1]; rfl
        rw [eb1']
        cases b with
        | false =>
          simp only [Bool.false_eq_true, if_false]
          have z := ih (pre ++ [x]) d1 d' acc ys n hx' hy (by simp at hn; omega) hl
          rw [len'] at z
          exact z
        | true =>
          simp only [if_true]
          have tgv := hg x d1 env1 fl (t ++ [.lst acc]) l1
          rw [← eh] at tgv
          cases hgx : g x d1 with
          | exc _ _ => simp only [hgx] at hy; cases hy
          | stuck => simp only [hgx] at hy; cases hy
          | ok yd =>
            obtain ⟨y, d2⟩ := yd
            simp only [hgx] at hy
            rw [hgx] at tgv
            obtain ⟨v, ev, ez⟩ := tgv
            cases ez
            have ev' : elt env1 ⟨fl, diceO d1 :: (o ++ [.lst acc])⟩ = .ok (eb y) ⟨fl, diceO d2 :: (o ++ [.lst acc])⟩ := by rw [ev, eh d2]
            rw [ev']
            cases hr : compD c g r d2 with
            | exc _ _ => simp only [hr] at hy; cases hy
            | stuck => simp only [hr] at hy; cases hy
            | ok zd =>
              obtain ⟨zs, d3⟩ := zd
              simp only [hr] at hy
              cases hy
              have add : compAdd (o.length + 1) (eb y) ⟨fl, diceO d2 :: (o ++ [.lst acc])⟩ = some ⟨fl, diceO d2 :: (o ++ [.lst (acc ++ [eb y])])⟩ := by
                unfold compAdd
                simp only [List.getElem?_cons_succ, List.getElem?_append_right (Nat.le_refl o.length), Nat.sub_self, List.getElem?_cons_zero]
                have h1 : acc.length < 16777216 := by simp at hl; omega
                rw [if_pos (by rw [Bool.and_eq_true]; exact ⟨decide_eq_true h1, decide_eq_true hfl⟩)]
                unfold Hc.set
                simp [List.set_append_right]
              simp only [add]
              have z := ih (pre ++ [x]) d2 d' (acc ++ [eb y]) zs n hx' hr (by simp at hn; omega) (by simp at hl ⊢; omega)
              rw [len'] at z
              rw [z]
              simp
theorem scop_okD {m : M CV} {env : En} {v w : CV} {t' : List CO} {fl' fl : Nat} {o : List CO} {d' : Dice} (h : m env ⟨o.length + 1, diceO d :: o⟩ = .ok v ⟨fl', diceO d' :: (o ++ t')⟩) (hf : frzV (diceO d' :: (o ++ t')) (o.length + 1) v = some w) : scopM m env ⟨fl, diceO d :: o⟩ = .ok w ⟨fl, diceO d' :: o⟩ := by
  unfold scopM scop
  simp only [Hc.N, List.length_cons, h, hf]
  unfold Hc.cut
  simp
theorem d_comp {e : α → CV} {eb : β → CV} [Fz eb] {mi : M ITc} {tg : Tgt} {tests : M Bool} {elt : M CV} {own : List Nat} {px : An (List α × Dice)} {spx : α → En} {c : α → Dice → An (Bool × Dice)} {g : α → Dice → An (β × Dice)}
    (hi : Ed sp os d mi (Wk e) px) (htg : ∀ x, TgP tg (e x) (wipeE sp own) (spx x)) (hc : ∀ x d, Ed (spx x) os d tests rT (c x d)) (hg : ∀ x d, Ed (spx x) os d elt (Is eb) (g x d)) :
    Ed sp os d (scopM (eComp mi tg tests elt own)) (Is (eLs eb)) (px.bD fun xs d => (compD c g xs d).bD okLD) := fun env fl t l => by
  have z := hi env ((os ++ t).length + 1) t l
  cases px with
  | stuck => trivial
  | exc x fs => trivial
  | ok xd =>
    obtain ⟨xs, d1⟩ := xd
    obtain ⟨it, e1, w⟩ := z
    show Gd ((compD c g xs d1).bD okLD) _ _ _ _
    cases hy : compD c g xs d1 with
    | stuck => trivial
    | exc x fs => exact absurd hy (compD_exc xs d1)
    | ok yd =>
      obtain ⟨ys, d2⟩ := yd
      show Gd (okLD ys d2) _ _ _ _
      unfold okLD
      cases hl : okLen ys.length with
      | false => trivial
      | true =>
        have hl' : ys.length ≤ 16777216 := of_decide_eq_true hl
        have run := compD_run w htg hc hg (l.wipe own) (fl := (os ++ t).length + 1) (o := os ++ t) (t := t) rfl (Nat.le_refl _) xs [] d1 d2 [] ys it.fuel rfl hy w.1 (by simpa using hl')
        refine ⟨_, scop_okD (t' := [.lst (ys.map eb)]) (fl' := (os ++ t).length + 1) (v := .ref ((os ++ t).length + 1)) (w := .lst (ys.map eb)) ?_ ?_, rfl⟩
        · unfold eComp
          rw [e1]
          show (match compN it.next tg tests elt (wipeE env own) (diceO d1 :: (os ++ t)).length it.fuel 0 ⟨(os ++ t).length + 1, (diceO d1 :: (os ++ t)) ++ [.lst []]⟩ with | some hp' => R.ok (CV.ref (diceO d1 :: (os ++ t)).length) hp' | none => .stuck) = _
          have run' : compN it.next tg tests elt (wipeE env own) (diceO d1 :: (os ++ t)).length it.fuel 0 ⟨(os ++ t).length + 1, (diceO d1 :: (os ++ t)) ++ [.lst []]⟩ = _ := run
          rw [run']
          rfl
        · refine frzV_lst (Nat.le_refl _) ?_ (fz_map eb ys)
          rw [List.getElem?_cons_succ, List.getElem?_append_right (Nat.le_refl _), Nat.sub_self]
          rfl
/-! ### statements -/
theorem Gs.ofD {q : An (α × Dice)} {rel : α → β → Prop} {r : R β} {env : En} {k : α → Dice → An κ} {f : β → Hc → RS} (h : Gd q rel fl os r) (hk : ∀ a d v, rel a v → Gs (k a d) post (f v ⟨fl, diceO d :: os⟩)) : Gs (q.bD k) post (RS.of r env f) := by
  cases q with
  | ok x => obtain ⟨v, e, z⟩ := h; subst e; exact hk x.1 x.2 v z
  | exc c fs => trivial
  | stuck => trivial
theorem Ed.at0 {m : M β} {q : An (α × Dice)} {rel : α → β → Prop} (h : Ed sp os d m rel q) {env : En} (l : LeP sp env) : Gd q rel 0 os (m env ⟨0, diceO d :: os⟩) := by
  have z := h env 0 [] l
  rwa [List.append_nil] at z
theorem s_asgD {t : Tgt} {m : M CV} {enc : α → CV} {q : An (α × Dice)} {k : α → Dice → An κ} {spx : α → En} (he : Ed sp os d m (Is enc) q) (ht : ∀ x, TgP t (enc x) sp (spx x)) (hr : ∀ x d, Ss (spx x) (diceO d :: os) rest (k x d) post) : Ss sp (diceO d :: os) (sSeq (sAsg t m) rest) (q.bD k) post := fun env l => by
  rw [seq_eq]
  unfold sAsg
  rw [seqR_of]
  refine Gs.ofD (he.at0 l) fun x d v e => ?_
  subst e
  obtain ⟨env1, e1, l1⟩ := ht x env l
  simp only [e1]
  exact hr x d env1 l1
theorem s_ifD {c : M Bool} {a b : MS} {pc : An (Bool × Dice)} {pa pb : Dice → An κ} (hc : Ed sp os d c rT pc) (ha : ∀ d, Ss sp (diceO d :: os) (sSeq a rest) (pa d) post) (hb : ∀ d, Ss sp (diceO d :: os) (sSeq b rest) (pb d) post) : Ss sp (diceO d :: os) (sSeq (sIf c a b) rest) (pc.bD fun x d => cond x (pa d) (pb d)) post := fun env l => by
  rw [if_of]
  refine Gs.ofD (hc.at0 l) fun x d v e => ?_
  cases e
  cases x
  · exact hb d env l
  · exact ha d env l
variable {K : List CV → MS} {ms : List (M CV)}
theorem sa_consD {m : M CV} {e : α → CV} {q : An (α × Dice)} {k : α → Dice → An κ} (he : Ed sp os d m (Is e) q) (hs : ∀ x d, Sa sp (diceO d :: os) ms (fun vs => K (e x :: vs)) (k x d) post) : Sa sp (diceO d :: os) (m :: ms) K (q.bD k) post := fun env l => by
  show Gs _ _ (RS.of (R.bind _ _) _ _)
  rw [of_bind]
  refine Gs.ofD (he.at0 l) fun x d v w => ?_
  subst w
  rw [of_bind]
  exact hs x d env l
theorem s_expD {m : M CV} {rel : α → CV → Prop} {q : An (α × Dice)} {k : α → Dice → An κ} (he : Ed sp os d m rel q) (hr : ∀ x d, Ss sp (diceO d :: os) rest (k x d) post) : Ss sp (diceO d :: os) (sSeq (sExp m) rest) (q.bD k) post := fun env l => by
  rw [seq_eq]
  unfold sExp
  rw [seqR_of]
  exact Gs.ofD (he.at0 l) fun x d v e => hr x d env l
theorem s_forFD {e : α → CV} {mi : M ITc} {tg : Tgt} {body : MS} {st : σ → En × List CO} {spx : σ → α → En} {f : σ → α → An σ} {px : An (List α × Dice)} {s0 : Dice → σ} {k : σ → An κ} (hi : Ed sp os d mi (Wk e) px) (l0 : ∀ d, LeP (st (s0 d)).1 sp) (o0 : ∀ d, diceO d :: os = (st (s0 d)).2)
    (htg : ∀ s x, TgP tg (e x) (st s).1 (spx s x)) (hb : ∀ s x, Ss (spx s x) (st s).2 body (f s x) (postB st)) (hr : ∀ s, Ss (st s).1 (st s).2 rest (k s) post) :
    Ss sp (diceO d :: os) (sSeq (sFor mi tg body) rest) (px.bD fun xs d => (forF f (s0 d) xs).bind k) post := fun env l => by
  rw [seq_eq]
  unfold sFor
  rw [seqR_of]
  refine Gs.ofD (hi.at0 l) fun xs d it w => ?_
  have z := forF_run w htg hb xs [] (s0 d) it.fuel env rfl w.1 ((l0 d).trans l)
  rw [← o0 d] at z
  simp only [List.length_nil] at z
  cases hf : forF f (s0 d) xs with
  | stuck => trivial
  | exc c fs =>
    rw [hf] at z
    obtain ⟨env', hp', eb⟩ := z
    rw [eb]
    exact ⟨env', hp', rfl⟩
  | ok s =>
    rw [hf] at z
    obtain ⟨env', eb, l'⟩ := z
    rw [eb]
    exact hr s env' l'
theorem s_forLD {e : α → CV} {mi : M ITc} {tg : Tgt} {body : MS} {st : σ → En × List CO} {A : ρ → CV → Hc → Prop} {kr : ρ → κ} [RtP post A kr] {spx : σ → α → En} {f : σ → α → An (Lp σ ρ)} {px : An (List α × Dice)} {s0 : Dice → σ} {k : σ → An κ} (hi : Ed sp os d mi (Wk e) px) (l0 : ∀ d, LeP (st (s0 d)).1 sp) (o0 : ∀ d, diceO d :: os = (st (s0 d)).2)
    (htg : ∀ s x, TgP tg (e x) (st s).1 (spx s x)) (hb : ∀ s x, Ss (spx s x) (st s).2 body (f s x) (postL st A)) (hr : ∀ s, Ss (st s).1 (st s).2 rest (k s) post) :
    Ss sp (diceO d :: os) (sSeq (sFor mi tg body) rest) (px.bD fun xs d => (forL f (s0 d) xs).bind (lpK k kr)) post := fun env l => by
  rw [seq_eq]
  unfold sFor
  rw [seqR_of]
  refine Gs.ofD (hi.at0 l) fun xs d it w => ?_
  have z := forL_run w htg hb xs [] (s0 d) it.fuel env rfl w.1 ((l0 d).trans l)
  rw [← o0 d] at z
  simp only [List.length_nil] at z
  cases hf : forL f (s0 d) xs with
  | stuck => trivial
  | exc c fs =>
    rw [hf] at z
    obtain ⟨env', hp', eb⟩ := z
    rw [eb]
    exact ⟨env', hp', rfl⟩
  | ok y =>
    rw [hf] at z
    cases y with
    | nx s =>
      obtain ⟨env', eb, l'⟩ := z
      rw [eb]
      exact hr s env' l'
    | bk s => exact z.elim
    | rt y =>
      obtain ⟨v, hp', eb, f'⟩ := z
      rw [eb]
      exact RtP.rt (post := post) y v hp' f'
/-! ### answers of defs with dice -/
def ansD (enc : ρ → CV) : ρ × Dice → CV → Hc → Prop := fun y v hp' => ∃ fl r, hp' = ⟨fl, diceO y.2 :: r⟩ ∧ frzV (diceO y.2 :: r) 1 v = some (enc y.1)
theorem s_retD {enc : ρ → CV} [Fz enc] {k : ρ × Dice → κ} [RtP post (ansD enc) k] {m : M CV} {q : An (ρ × Dice)} (he : Ed sp os d m (Is enc) q) : Ss sp (diceO d :: os) (sSeq (sRet m) rest) (q.bD fun x d => .ok (k (x, d))) post := fun env l => by
  rw [seq_eq]
  unfold sRet
  rw [seqR_of]
  refine Gs.ofD (he.at0 l) fun x d v e => ?_
  subst e
  exact RtP.rt (post := post) (x, d) _ _ ⟨_, _, rfl, frzV_froz _ 1 (Fz.lim x)⟩
theorem s_retPD {enc : ρ → CV} [Fz enc] {k : ρ × Dice → κ} [RtP post (ansD enc) k] {m : M CV} {q : An ρ} (he : Ex sp (diceO d :: os) m (Is enc) q) : Ss sp (diceO d :: os) (sSeq (sRet m) rest) (q.bind fun x => .ok (k (x, d))) post := s_retA (g := fun x => (x, d)) he fun x => ⟨_, _, rfl, frzV_froz _ 1 (Fz.lim x)⟩
theorem fn_locD {n : Nat} {body : MS} {args : List CV} {q : An (ρ × Dice)} {enc : ρ → CV} [Fz enc] (j : Nat) (hj : args[j]? = some (.ref 0)) (ha : limL 0 (args.set j .non) = true) (h : Ss (args.map some ++ List.replicate (n - args.length) none) [diceO d] body q (postA (ansD enc))) (fl : Nat) (o : List CO) :
    Gd q (Is enc) fl o (locD j (fnM n body) args ⟨fl, diceO d :: o⟩) := by
  have z := h _ (LeP.refl _)
  have es : args.set j (.ref 0) = args := by
    apply List.ext_getElem?
    intro i
    by_cases hi : j = i
    · subst hi
      rw [List.getElem?_set_self (List.getElem?_eq_some_iff.mp hj).1, hj]
    · rw [List.getElem?_set_ne hi]
  have ld : limO 0 (diceO d) = true := rfl
  unfold locD
  simp only [hj, List.getElem?_cons_zero, ld, ha, Bool.and_self, if_true, es]
  unfold fnM
  revert z
  generalize body (args.map some ++ List.replicate (n - args.length) none) ⟨0, [diceO d]⟩ = r
  intro z
  cases q with
  | stuck => trivial
  | exc c fs => trivial
  | ok x =>
    have fin : ∀ v fl' r', frzV (diceO x.2 :: r') 1 v = some (enc x.1) → (match (R.ok v ⟨fl', diceO x.2 :: r'⟩ : R CV) with
      | .ok v ⟨_, o' :: r⟩ => if limO 0 o' = true then (match frzV (o' :: r) 1 v with
          | some v' => if limV 0 v' = true then R.ok v' ((⟨fl, diceO d :: o⟩ : Hc).set 0 o') else .stuck
          | none => .stuck) else .stuck
      | .exc c fs ⟨_, o' :: _⟩ => if limO 0 o' = true then .exc c fs ((⟨fl, diceO d :: o⟩ : Hc).set 0 o') else .stuck
      | _ => .stuck) = .ok (enc x.1) ⟨fl, diceO x.2 :: o⟩ := fun v fl' r' f => by
      have ld' : limO 0 (diceO x.2) = true := rfl
      simp only [ld', if_true, f, Fz.lim (e := enc) x.1]
      rfl
    rcases z with ⟨v, hp', e, fl', r', eh, f⟩ | ⟨env', hp', e, fl', r', eh, f⟩
    · subst e; subst eh
      exact ⟨_, fin v fl' r' f, rfl⟩
    · subst e; subst eh
      exact ⟨_, fin .non fl' r' f, rfl⟩
/-! ### a law's body -/
/-- it comes to its end -/
def postH : Lp Unit Bool → RS → Prop := fun x r => match x with
  | .nx _ => ∃ env' fl d rest, r = .ok (.nx env') ⟨fl, diceO d :: rest⟩
  | .bk _ => False
  | .rt _ => True
instance : RtP postH (fun (_ : Bool) _ _ => True) Lp.rt := ⟨fun y v hp' h => trivial⟩
theorem s_retH {m : M CV} {rel : Bool → CV → Prop} {q : An Bool} (he : Ex sp (diceO d :: os) m rel q) : Ss sp (diceO d :: os) (sSeq (sRet m) rest) (q.bind fun x => .ok (.rt x)) postH := fun env l => by
  rw [seq_eq]
  unfold sRet
  rw [seqR_of]
  exact Gs.of (he.at0 l) fun x v e => trivial
theorem s_doneH : Ss sp (diceO d :: os) sNil (.ok (.nx ())) postH := fun env l => ⟨env, 0, d, os, rfl⟩
theorem law_frameH {n : Nat} {f : Fn} {body : MS} {nb : Dice → An (Lp Unit Bool)} (hf : ∀ ns : List Int, ∃ j d a b c hp, f [.lst (ns.map .int), .int 1] ⟨0, []⟩ = .ok (.ref j) hp ∧ Begun j d a b c hp)
    (hb : ∀ d, Ss (none :: some (.ref 0) :: List.replicate n none) [diceO d] body (nb d) postH) (hn : ∀ d, nb d = .ok (.nx ())) (ns : List Int) :
    ∃ hp', fnM (n + 2) (sSeq (sFor (mIt (eBi f [eVar 0, eC (.int 1)]) itAny) (gNm 1) (sHide 1 body)) (sRet (eC (.bl true)))) [.lst (ns.map .int)] ⟨0, []⟩ = .ok (.bl true) hp' := by
  refine law_frame (body := sHide 1 body) hf (fun s j d a b c hp bg => ?_) ns
  have z := hb (a, b, c) ((wipeR (some s :: some (.ref d) :: List.replicate n none)).set 1 (some (.ref 0))) (by
    have w : ∀ n, wipeR (List.replicate n none) = List.replicate n none := fun n => by
      induction n with
      | zero => rfl
      | succ n ih => show none :: wipeR (List.replicate n none) = none :: List.replicate n none; rw [ih]
    have e : (wipeR (some s :: some (.ref d) :: List.replicate n none)).set 1 (some (.ref 0)) = (if limV 0 s = true then some s else none) :: some (.ref 0) :: wipeR (List.replicate n none) := rfl
    rw [e, w]
    exact ⟨rfl, LeP.refl _⟩)
  rw [hn] at z
  obtain ⟨env', fl, d2, rest, e⟩ := z
  have dc : hp.os[d]? = some (diceO (a, b, c)) := bg.dice
  have l1 : limO 0 (diceO (a, b, c)) = true := rfl
  have l2 : limO 0 (diceO d2) = true := rfl
  refine ⟨backE 1 d env', hp.set d (diceO d2), ?_, bg.fl, fun i hi _ => ?_⟩
  · unfold sHide
    simp only [List.getElem?_cons_succ, List.getElem?_cons_zero, dc, l1, if_true]
    rw [e]
    simp only [l2, if_true]
  · show (hp.os.set d (diceO d2))[i]? = _
    rw [List.getElem?_set_ne (Ne.symm hi)]
end
end Bl

/-! Native layer, part I: groups of statements; small laws of An. -/
namespace Bl
open PySem PySem.Spec PyProof.Rows L2
section
variable {α β γ κ σ ρ : Type} {sp : En} {os : List CO} {p : An κ} {post : κ → RS → Prop} {r s1 s2 s3 s4 s5 s6 s7 s8 s9 s10 s11 s12 s13 s14 s15 s16 s17 s18 s19 s20 : MS}
theorem sseq_assoc {a b r : MS} : sSeq (sSeq a b) r = sSeq a (sSeq b r) := by
  funext env hp
  rw [seq_eq, seq_eq, seqR_seqR, ← seq_eq]
theorem grp1 (h : Ss sp os (sSeq s1 r) p post) : Ss sp os (sSeq s1 r) p post := h
theorem grp2 (h : Ss sp os (sSeq (sSeq s1 s2) r) p post) : Ss sp os (sSeq s1 (sSeq s2 r)) p post := by
  simp only [sseq_assoc] at h
  exact h
theorem grp3 (h : Ss sp os (sSeq (sSeq s1 (sSeq s2 s3)) r) p post) : Ss sp os (sSeq s1 (sSeq s2 (sSeq s3 r))) p post := by
  simp only [sseq_assoc] at h
  exact h
theorem grp4 (h : Ss sp os (sSeq (sSeq s1 (sSeq s2 (sSeq s3 s4))) r) p post) : Ss sp os (sSeq s1 (sSeq s2 (sSeq s3 (sSeq s4 r)))) p post := by
  simp only [sseq_assoc] at h
  exact h
theorem grp5 (h : Ss sp os (sSeq (sSeq s1 (sSeq s2 (sSeq s3 (sSeq s4 s5)))) r) p post) : Ss sp os (sSeq s1 (sSeq s2 (sSeq s3 (sSeq s4 (sSeq s5 r))))) p post := by
  simp only [sseq_assoc] at h
  exact h
theorem grp6 (h : Ss sp os (sSeq (sSeq s1 (sSeq s2 (sSeq s3 (sSeq s4 (sSeq s5 s6))))) r) p post) : Ss sp os (sSeq s1 (sSeq s2 (sSeq s3 (sSeq s4 (sSeq s5 (sSeq s6 r)))))) p post := by
  simp only [sseq_assoc] at h
  exact h
theorem grp7 (h : Ss sp os (sSeq (sSeq s1 (sSeq s2 (sSeq s3 (sSeq s4 (sSeq s5 (sSeq s6 s7)))))) r) p post) : Ss sp os (sSeq s1 (sSeq s2 (sSeq s3 (sSeq s4 (sSeq s5 (sSeq s6 (sSeq s7 r))))))) p post := by
  simp only [sseq_assoc] at h
  exact h
theorem grp8 (h : Ss sp os (sSeq (sSeq s1 (sSeq s2 (sSeq s3 (sSeq s4 (sSeq s5 (sSeq s6 (sSeq s7 s8))))))) r) p post) : Ss sp os (sSeq s1 (sSeq s2 (sSeq s3 (sSeq s4 (sSeq s5 (sSeq s6 (sSeq s7 (sSeq s8 r)))))))) p post := by
  simp only [sseq_assoc] at h
  exact h
theorem grp9 (h : Ss sp os (sSeq (sSeq s1 (sSeq s2 (sSeq s3 (sSeq s4 (sSeq s5 (sSeq s6 (sSeq s7 (sSeq s8 s9)))))))) r) p post) : Ss sp os (sSeq s1 (sSeq s2 (sSeq s3 (sSeq s4 (sSeq s5 (sSeq s6 (sSeq s7 (sSeq s8 (sSeq s9 r))))))))) p post := by
  simp only [sseq_assoc] at h
  exact h
theorem grp10 (h : Ss sp os (sSeq (sSeq s1 (sSeq s2 (sSeq s3 (sSeq s4 (sSeq s5 (sSeq s6 (sSeq s7 (sSeq s8 (sSeq s9 s10))))))))) r) p post) : Ss sp os (sSeq s1 (sSeq s2 (sSeq s3 (sSeq s4 (sSeq s5 (sSeq s6 (sSeq s7 (sSeq s8 (sSeq s9 (sSeq s10 r)))))))))) p post := by
  simp only [sseq_assoc] at h
  exact h
theorem grp11 (h : Ss sp os (sSeq (sSeq s1 (sSeq s2 (sSeq s3 (sSeq s4 (sSeq s5 (sSeq s6 (sSeq s7 (sSeq s8 (sSeq s9 (sSeq s10 s11)))))))))) r) p post) : Ss sp os (sSeq s1 (sSeq s2 (sSeq s3 (sSeq s4 (sSeq s5 (sSeq s6 (sSeq s7 (sSeq s8 (sSeq s9 (sSeq s10 (sSeq s11 r))))))))))) p post := by
  simp only [sseq_assoc] at h
  exact h
theorem grp12 (h : Ss sp os (sSeq (sSeq s1 (sSeq s2 (sSeq s3 (sSeq s4 (sSeq s5 (sSeq s6 (sSeq s7 (sSeq s8 (sSeq s9 (sSeq s10 (sSeq s11 s12))))))))))) r) p post) : Ss sp os (sSeq s1 (sSeq s2 (sSeq s3 (sSeq s4 (sSeq s5 (sSeq s6 (sSeq s7 (sSeq s8 (sSeq s9 (sSeq s10 (sSeq s11 (sSeq s12 r)))))))))))) p post := by
  simp only [sseq_assoc] at h
  exact h
theorem grp13 (h : Ss sp os (sSeq (sSeq s1 (sSeq s2 (sSeq s3 (sSeq s4 (sSeq s5 (sSeq s6 (sSeq s7 (sSeq s8 (sSeq s9 (sSeq s10 (sSeq s11 (sSeq s12 s13)))))))))))) r) p post) : Ss sp os (sSeq s1 (sSeq s2 (sSeq s3 (sSeq s4 (sSeq s5 (sSeq s6 (sSeq s7 (sSeq s8 (sSeq s9 (sSeq s10 (sSeq s11 (sSeq s12 (sSeq s13 r))))))))))))) p post := by
  simp only [sseq_assoc] at h
  exact h
theorem grp14 (h : Ss sp os (sSeq (sSeq s1 (sSeq s2 (sSeq s3 (sSeq s4 (sSeq s5 (sSeq s6 (sSeq s7 (sSeq s8 (sSeq s9 (sSeq s10 (sSeq s11 (sSeq s12 (sSeq s13 s14))))))))))))) r) p post) : Ss sp os (sSeq s1 (sSeq s2 (sSeq s3 (sSeq s4 (sSeq s5 (sSeq s6 (sSeq s7 (sSeq s8 (sSeq s9 (sSeq s10 (sSeq s11 (sSeq s12 (sSeq s13 (sSeq s14 r)))))))))))))) p post := by
  simp only [sseq_assoc] at h
  exact h
theorem grp15 (h : Ss sp os (sSeq (sSeq s1 (sSeq s2 (sSeq s3 (sSeq s4 (sSeq s5 (sSeq s6 (sSeq s7 (sSeq s8 (sSeq s9 (sSeq s10 (sSeq s11 (sSeq s12 (sSeq s13 (sSeq s14 s15)))))))))))))) r) p post) : Ss sp os (sSeq s1 (sSeq s2 (sSeq s3 (sSeq s4 (sSeq s5 (sSeq s6 (sSeq s7 (sSeq s8 (sSeq s9 (sSeq s10 (sSeq s11 (sSeq s12 (sSeq s13 (sSeq s14 (sSeq s15 r))))))))))))))) p post := by
  simp only [sseq_assoc] at h
  exact h
theorem grp16 (h : Ss sp os (sSeq (sSeq s1 (sSeq s2 (sSeq s3 (sSeq s4 (sSeq s5 (sSeq s6 (sSeq s7 (sSeq s8 (sSeq s9 (sSeq s10 (sSeq s11 (sSeq s12 (sSeq s13 (sSeq s14 (sSeq s15 s16))))))))))))))) r) p post) : Ss sp os (sSeq s1 (sSeq s2 (sSeq s3 (sSeq s4 (sSeq s5 (sSeq s6 (sSeq s7 (sSeq s8 (sSeq s9 (sSeq s10 (sSeq s11 (sSeq s12 (sSeq s13 (sSeq s14 (sSeq s15 (sSeq s16 r)))))))))))))))) p post := by
  simp only [sseq_assoc] at h
  exact h
theorem grp17 (h : Ss sp os (sSeq (sSeq s1 (sSeq s2 (sSeq s3 (sSeq s4 (sSeq s5 (sSeq s6 (sSeq s7 (sSeq s8 (sSeq s9 (sSeq s10 (sSeq s11 (sSeq s12 (sSeq s13 (sSeq s14 (sSeq s15 (sSeq s16 s17)))))))))))))))) r) p post) : Ss sp os (sSeq s1 (sSeq s2 (sSeq s3 (sSeq s4 (sSeq s5 (sSeq s6 (sSeq s7 (sSeq s8 (sSeq s9 (sSeq s10 (sSeq s11 (sSeq s12 (sSeq s13 (sSeq s14 (sSeq s15 (sSeq s16 (sSeq s17 r))))))))))))))))) p post := by
  simp only [sseq_assoc] at h
  exact h
theorem grp18 (h : Ss sp os (sSeq (sSeq s1 (sSeq s2 (sSeq s3 (sSeq s4 (sSeq s5 (sSeq s6 (sSeq s7 (sSeq s8 (sSeq s9 (sSeq s10 (sSeq s11 (sSeq s12 (sSeq s13 (sSeq s14 (sSeq s15 (sSeq s16 (sSeq s17 s18))))))))))))))))) r) p post) : Ss sp os (sSeq s1 (sSeq s2 (sSeq s3 (sSeq s4 (sSeq s5 (sSeq s6 (sSeq s7 (sSeq s8 (sSeq s9 (sSeq s10 (sSeq s11 (sSeq s12 (sSeq s13 (sSeq s14 (sSeq s15 (sSeq s16 (sSeq s17 (sSeq s18 r)))))))))))))))))) p post := by
  simp only [sseq_assoc] at h
  exact h
theorem grp19 (h : Ss sp os (sSeq (sSeq s1 (sSeq s2 (sSeq s3 (sSeq s4 (sSeq s5 (sSeq s6 (sSeq s7 (sSeq s8 (sSeq s9 (sSeq s10 (sSeq s11 (sSeq s12 (sSeq s13 (sSeq s14 (sSeq s15 (sSeq s16 (sSeq s17 (sSeq s18 s19)))))))))))))))))) r) p post) : Ss sp os (sSeq s1 (sSeq s2 (sSeq s3 (sSeq s4 (sSeq s5 (sSeq s6 (sSeq s7 (sSeq s8 (sSeq s9 (sSeq s10 (sSeq s11 (sSeq s12 (sSeq s13 (sSeq s14 (sSeq s15 (sSeq s16 (sSeq s17 (sSeq s18 (sSeq s19 r))))))))))))))))))) p post := by
  simp only [sseq_assoc] at h
  exact h
theorem grp20 (h : Ss sp os (sSeq (sSeq s1 (sSeq s2 (sSeq s3 (sSeq s4 (sSeq s5 (sSeq s6 (sSeq s7 (sSeq s8 (sSeq s9 (sSeq s10 (sSeq s11 (sSeq s12 (sSeq s13 (sSeq s14 (sSeq s15 (sSeq s16 (sSeq s17 (sSeq s18 (sSeq s19 s20))))))))))))))))))) r) p post) : Ss sp os (sSeq s1 (sSeq s2 (sSeq s3 (sSeq s4 (sSeq s5 (sSeq s6 (sSeq s7 (sSeq s8 (sSeq s9 (sSeq s10 (sSeq s11 (sSeq s12 (sSeq s13 (sSeq s14 (sSeq s15 (sSeq s16 (sSeq s17 (sSeq s18 (sSeq s19 (sSeq s20 r)))))))))))))))))))) p post := by
  simp only [sseq_assoc] at h
  exact h
theorem retJ {st : σ → En × List CO} {A : ρ → CV → Hc → Prop} : True := trivial
theorem An.bind_inv {p : An α} {f : α → An β} {y : β} (h : p.bind f = .ok y) : ∃ a, p = .ok a ∧ f a = .ok y := by
  cases p with
  | ok a => exact ⟨a, rfl, h⟩
  | exc _ _ => cases h
  | stuck => cases h
theorem roll_at (d : Dice) {m : Int} (h : (decide (0 < m) && decide (m < 1073741824)) = true) : ∃ r d', rollN d m = .ok (r, d') ∧ 0 ≤ r ∧ r < m := by
  refine ⟨rollV d.1 d.2.1 d.2.2 m, rollS d.1 d.2.1 d.2.2 m, ?_, ?_, ?_⟩
  · unfold rollN; rw [h]; rfl
  · rw [Bool.and_eq_true, decide_eq_true_eq] at h; exact rollV_nn h.1
  · rw [Bool.and_eq_true, decide_eq_true_eq] at h; exact rollV_lt h.1
/-- a row at a rolled place -/
theorem roll_in {xs : List α} {i : Int} (h : 0 ≤ i) (hl : i < xs.length) : ∃ x ∈ xs, An.opt (atI xs i) = .ok x := by
  obtain ⟨x, hx, e⟩ := atI_mem h hl
  exact ⟨x, hx, by rw [e]; rfl⟩
/-- it ends well -/
def An.isOk (p : An α) (f : α → Bool) : Bool := match p with
  | .ok a => f a
  | _ => false
theorem An.of_isOk {p : An α} {f : α → Bool} (h : p.isOk f = true) : ∃ a, p = .ok a ∧ f a = true := by
  cases p with
  | ok a => exact ⟨a, rfl, h⟩
  | exc _ _ => cases h
  | stuck => cases h
/-- on with a state that passes -/
def Lp.isNx (x : Lp σ ρ) (f : σ → Bool) : Bool := match x with
  | .nx s => f s
  | _ => false
theorem Lp.of_isNx {x : Lp σ ρ} {f : σ → Bool} (h : x.isNx f = true) : ∃ s, x = .nx s ∧ f s = true := by
  cases x with
  | nx s => exact ⟨s, rfl, h⟩
  | bk _ => cases h
  | rt _ => cases h
@[simp] theorem lpK_nx {k : σ → An κ} {kr : ρ → κ} {s : σ} : lpK k kr (.nx s) = k s := rfl
end
end Bl

/-! Native layer, part J: written dicts with int keys, sum, join, extend. -/
namespace Bl
open PySem PySem.Spec PyProof.Rows L2
section
variable {α β γ κ : Type} {sp : En} {os : List CO} {rest : MS} {post : κ → RS → Prop}
abbrev eIt (ev : β → CV) : List (Int × β) → ITab := fun tab => tab.map fun p => (p.1, ev p.2)
theorem lookZ_map {ev : β → CV} (z : Int) : ∀ tab : List (Int × β), lookZ z (eIt ev tab) = (nlook z tab).map ev
  | [] => rfl
  | (k, v) :: r => by
    show (if k = z then some (ev v) else lookZ z (eIt ev r)) = _
    rw [lookZ_map z r]
    show _ = (if k = z then some v else nlook z r).map ev
    by_cases h : k = z <;> simp [h]
theorem lookId_at {itabs : List (Nat × ITab)} {i : Nat} {ev : β → CV} {tab : List (Int × β)} (ht : assocN i itabs = some (eIt ev tab)) (z : Int) : lookId itabs (.int z) (.wdc i) = some ((nlook z tab).map ev) := by
  show (match assocN i itabs with | some tab => some (lookZ z tab) | none => none) = _
  rw [ht]
  show some (lookZ z (eIt ev tab)) = _
  rw [lookZ_map]
theorem n_inI {neg : Bool} {itabs : List (Nat × ITab)} {i : Nat} {ev : β → CV} {m : M CV} {p : An Int} (h : Ex sp os m rI p) (tab : List (Int × β)) (ht : assocN i itabs = some (eIt ev tab) := by rfl) : Ex sp os (e2 (vIIn itabs neg) m (eC (.wdc i))) rB (p.bind fun z => .ok (ngB neg (nlook z tab).isSome)) := fun env fl t l =>
  (h env fl t l).bind fun z v e => by
    cases e
    refine ⟨.bl (ngB neg (nlook z tab).isSome), ?_, rfl⟩
    show vIIn itabs neg (.int z) (.wdc i) ⟨fl, os ++ t⟩ = _
    unfold vIIn
    rw [lookId_at ht]
    simp only [Option.isSome_map]
    cases neg <;> rfl
theorem n_getI {itabs : List (Nat × ITab)} {i : Nat} {ev : β → CV} {m : M CV} {p : An Int} (h : Ex sp os m rI p) (tab : List (Int × β)) (ht : assocN i itabs = some (eIt ev tab) := by rfl) : Ex sp os (e2 (vIGet itabs) (eC (.wdc i)) m) (Is ev) (p.bind fun z => .opt (nlook z tab)) := fun env fl t l =>
  (h env fl t l).bind fun z v e => by
    cases e
    show Gi _ _ _ (vIGet itabs (.wdc i) (.int z) ⟨fl, os ++ t⟩)
    unfold vIGet
    rw [lookId_at ht]
    cases nlook z tab with
    | none => trivial
    | some x => exact ⟨_, rfl, rfl⟩
/-! ### sum -/
theorem sumI_map : ∀ xs : List Int, sumI (xs.map CV.int) = some xs.sum
  | [] => rfl
  | x :: xs => by
    show (sumI (xs.map CV.int)).map (x + ·) = _
    rw [sumI_map xs]
    rfl
theorem n_sum {m : M CV} {p : An (List Int)} (h : Ex sp os m (Sq os CV.int) p) : Ex sp os (eBi bSum [m]) rI (p.bind fun xs => .ok xs.sum) := n_bi1 h fun a v fl t z => by
  refine ⟨.int a.sum, ?_, rfl⟩
  unfold bSum
  simp only [z.1 fl t, sumI_map]
/-! ### join -/
theorem strsOf_map : ∀ xs : List (List Nat), strsOf (xs.map CV.str) = some xs
  | [] => rfl
  | x :: xs => by
    show (strsOf (xs.map CV.str)).map (x :: ·) = _
    rw [strsOf_map xs]
    rfl
abbrev okJ (a : List Nat) (zs : List (List Nat)) : Bool := decide ((zs.map (·.length)).sum + zs.length * a.length ≤ 16777216)
theorem n_join {ma mb : M CV} {p : An (List Nat)} {q : An (List (List Nat))} (ha : Ex sp os ma rS p) (hb : Ex sp os mb (Sq os CV.str) q) : Ex sp os (eJoin ma mb) rS (p.bind fun a => q.bind fun zs => grd (okJ a zs) (.ok (joinN a zs))) := fun env fl t l =>
  (ha env fl t l).bind fun a v z => by
    cases z
    exact (hb env fl t l).bind fun zs w y => by
      rw [y.1 fl t]
      show Gi _ _ _ (match strsOf (zs.map CV.str) with | some zs => if okJ a zs = true then _ else _ | none => _)
      rw [strsOf_map]
      show Gi _ _ _ (if okJ a zs = true then _ else _)
      cases okJ a zs
      · trivial
      · exact ⟨_, rfl, rfl⟩
/-! ### extend -/
abbrev okX (n m : Nat) : Bool := decide (n + m ≤ 16777216)
theorem s_extend {e : α → CV} [Fz e] {i n : Nat} {ma : M CV} {xs : List α} {q : An (List α)} {k : List α → An κ} (ha : Ex sp os ma (Is (eLs e)) q) (hr : ∀ ys, Ss sp (os.set n (.lst ((xs ++ ys).map e))) rest (k ys) post) (h : sp[i]? = some (some (.ref n)) := by rfl) (ho : os[n]? = some (.lst (xs.map e)) := by rfl) :
    Ss sp os (sSeq (sExp (eExtend (eVar i) ma)) rest) (q.bind fun ys => grd (okX xs.length ys.length) (k ys)) post := fun env l => by
  rw [seq_eq]
  unfold sExp
  rw [seqR_of]
  have hv : eVar i env ⟨0, os⟩ = .ok (.ref n) ⟨0, os⟩ := by unfold eVar; rw [l.get h]
  have hl : isL ⟨0, os⟩ n = true := by unfold isL; simp only [ho]
  unfold eExtend
  rw [hv]
  simp only [R.bind, hl, if_true]
  show Gs _ _ (RS.of (R.bind (ma env ⟨0, os⟩) _) _ _)
  rw [of_bind]
  refine Gs.ofE (ha.at0 l) fun ys v hq z => ?_
  subst z
  cases hk : okX xs.length ys.length with
  | false => trivial
  | true =>
    have ap : extC n (ys.map e) ⟨0, os⟩ = some ⟨0, os.set n (.lst ((xs ++ ys).map e))⟩ := by
      unfold extC
      simp only [ho, Nat.not_lt_zero, decide_false, Bool.false_and, Bool.false_eq_true, if_false, List.length_map]
      rw [if_pos hk]
      rw [List.map_append]
      rfl
    show Gs _ _ (RS.of (match extC n (ys.map e) ⟨0, os⟩ with | some hp' => R.ok CV.non hp' | none => .stuck) _ _)
    rw [ap]
    exact hr ys env l
end
end Bl

namespace K18
open PySem PySem.Spec PyProof.Rows L2 Bl
def top (i : Nat) : Stmt := PySem.Challenge.pw_blazonhall_k18_sown_and_between.main.body.getD i (.Pass ⟨0, 0, 0, 0⟩)
def c_LETTERS : CV := .wdc 0
def c_WIDE : CV := .int 12
def c_HIGH : CV := .int 14
def c_SPANS : CV := .wtp [.wtp [.int 0, .int 12], .wtp [.int 0, .int 12], .wtp [.int 0, .int 12], .wtp [.int 0, .int 12], .wtp [.int 0, .int 12], .wtp [.int 0, .int 12], .wtp [.int 0, .int 12], .wtp [.int 0, .int 12], .wtp [.int 1, .int 11], .wtp [.int 2, .int 10], .wtp [.int 3, .int 9], .wtp [.int 4, .int 8], .wtp [.int 5, .int 7], .wtp [.int 5, .int 7]]
def c_NAMES : CV := .wtp [.str [112, 97, 108, 101], .str [102, 101, 115, 115], .str [98, 101, 110, 100], .str [115, 105, 110, 105, 115, 116, 101, 114], .str [99, 104, 101, 118, 114, 111, 110], .str [99, 114, 111, 115, 115], .str [115, 97, 108, 116, 105, 114, 101], .str [99, 104, 105, 101, 102], .str [98, 97, 115, 101], .str [98, 111, 114, 100, 101, 114], .str [99, 97, 110, 116, 111, 110]]
def c_FIGURES : CV := .wdc 1
def d_SPANS : (List (Int × Int)) := [(0, 12), (0, 12), (0, 12), (0, 12), (0, 12), (0, 12), (0, 12), (0, 12), (1, 11), (2, 10), (3, 9), (4, 8), (5, 7), (5, 7)]
def d_NAMES : (List (List Nat)) := [[112, 97, 108, 101], [102, 101, 115, 115], [98, 101, 110, 100], [115, 105, 110, 105, 115, 116, 101, 114], [99, 104, 101, 118, 114, 111, 110], [99, 114, 111, 115, 115], [115, 97, 108, 116, 105, 114, 101], [99, 104, 105, 101, 102], [98, 97, 115, 101], [98, 111, 114, 100, 101, 114], [99, 97, 110, 116, 111, 110]]
abbrev x_BadColour : Nat := 1
abbrev x_BadShape : Nat := 2
def t_LETTERS : List (List Nat × (List Nat)) := [([111, 114], [111]), ([97, 114, 103, 101, 110, 116], [119]), ([103, 117, 108, 101, 115], [114]), ([97, 122, 117, 114, 101], [98]), ([115, 97, 98, 108, 101], [107]), ([118, 101, 114, 116], [103]), ([112, 117, 114, 112, 117, 114, 101], [112]), ([101, 114, 109, 105, 110, 101], [101]), ([118, 97, 105, 114], [118])]
def wt_LETTERS : WTab := eWt CV.str t_LETTERS
def t_FIGURES : List (List Nat × (List (List Nat))) := [([114, 111, 117, 110, 100, 101, 108], [[46, 35, 46], [35, 35, 35], [46, 35, 46]]), ([98, 105, 108, 108, 101, 116], [[35, 35], [35, 35], [35, 35]]), ([108, 111, 122, 101, 110, 103, 101], [[46, 35, 46], [35, 35, 35], [35, 35, 35], [46, 35, 46]]), ([115, 116, 97, 114], [[35, 46, 35], [46, 35, 46], [35, 46, 35]]), ([99, 114, 101, 115, 99, 101, 110, 116], [[35, 46, 35], [35, 46, 35], [35, 35, 35]]), ([116, 111, 119, 101, 114], [[35, 46, 35], [35, 35, 35], [35, 35, 35]]), ([97, 110, 110, 117, 108, 101, 116], [[35, 35, 35], [35, 46, 35], [35, 35, 35]]), ([112, 111, 105, 110, 116], [[35]])]
def wt_FIGURES : WTab := eWt (eWs CV.str) t_FIGURES
def wtabs : List WTab := [wt_LETTERS, wt_FIGURES]
def wN : List Str := ["LETTERS", "FIGURES"]
def cN : List Str := ["BlazonFault", "BadColour", "BadShape", "Band"]
def fN : List Str := ["name", "colour", "width"]
def ftab : List (List Nat) := [[], [], [], [0, 1, 2]]
structure C_Band where
  f_name : (List Nat)
  f_colour : (List Nat)
  f_width : Int
  deriving DecidableEq
def eC_Band (b : C_Band) : CV := .ins 3 [(0, CV.str b.f_name), (1, CV.str b.f_colour), (2, CV.int b.f_width)]
instance : Fz eC_Band := ⟨fun _ => rfl⟩
abbrev s__law_dice : Stmt := top 29
abbrev s__law_roll : Stmt := top 30
abbrev s__law_rounds : Stmt := top 31
abbrev s_check_colour : Stmt := top 7
abbrev s_within : Stmt := top 12
abbrev s_is_border : Stmt := top 17
abbrev s_on_band : Stmt := top 16
abbrev s_Band___init__ : Stmt := clsStm (top 18) 0
abbrev s_check_figure : Stmt := top 21
abbrev s_figure_places : Stmt := top 22
abbrev s_squares : Stmt := top 13
abbrev s_Band_places : Stmt := clsStm (top 18) 1
abbrev s_on_band_rows : Stmt := top 25
abbrev s__law_flat : Stmt := top 28
abbrev s_between : Stmt := top 26
abbrev s_figure_size : Stmt := top 23
abbrev s_sown : Stmt := top 24
abbrev s_law : Stmt := top 32
def tf : List He.Defn := [("on_band_rows", none), ("between", none)]
def tn : List (He.Defn × Str) := [(("on_band_rows", none), "on_band_rows.<locals>.<genexpr>"), (("between", none), "between.<locals>.<genexpr>")]
def Γof (K : PySem.W.Frag) : Gx := ⟨K, fun c => He.ga K (cN.getD c Str.empty), fnOf fN, fun i => He.ga K (wN.getD i Str.empty), tn.map fun q => ((He.cT K q.1).2, q.2)⟩
/-- what the top has written -/
structure Fx (K : PySem.W.Frag) (w : World) (mg : Str → Option Value) (Γ : Gx) : Prop where
  g_FIGURES : Bl.Gv mg Γ "FIGURES" c_FIGURES
  g_HIGH : Bl.Gv mg Γ "HIGH" c_HIGH
  g_LETTERS : Bl.Gv mg Γ "LETTERS" c_LETTERS
  g_NAMES : Bl.Gv mg Γ "NAMES" c_NAMES
  g_SPANS : Bl.Gv mg Γ "SPANS" c_SPANS
  g_WIDE : Bl.Gv mg Γ "WIDE" c_WIDE
  n_abs : mg "abs" = none
  n_all : mg "all" = none
  n_dict : mg "dict" = none
  n_enumerate : mg "enumerate" = none
  n_int : mg "int" = none
  n_len : mg "len" = none
  n_range : mg "range" = none
  n_sorted : mg "sorted" = none
  n_tuple : mg "tuple" = none
  wd : WdT K w Γ wtabs
  T : ClT K Γ ftab
  f_name : Γ.fn 0 = "name"
  f_colour : Γ.fn 1 = "colour"
  f_width : Γ.fn 2 = "width"
  x_BadColour : ExF K mg Γ "BadColour" 1
  x_BadShape : ExF K mg Γ "BadShape" 2
  ne_Band_places : ∀ q, Γ.fn q ≠ "places"
  d__law_dice : DefK K mg "_law_dice" (defArgs s__law_dice) (defBody s__law_dice) (defScope s__law_dice) ["cell"]
  d__law_roll : DefK K mg "_law_roll" (defArgs s__law_roll) (defBody s__law_roll) (defScope s__law_roll) ["dice", "many"]
  d__law_rounds : DefK K mg "_law_rounds" (defArgs s__law_rounds) (defBody s__law_rounds) (defScope s__law_rounds) ["script", "most"]
  d_check_colour : DefK K mg "check_colour" (defArgs s_check_colour) (defBody s_check_colour) (defScope s_check_colour) ["name"]
  d_within : DefK K mg "within" (defArgs s_within) (defBody s_within) (defScope s_within) ["row", "column"]
  d_is_border : DefK K mg "is_border" (defArgs s_is_border) (defBody s_is_border) (defScope s_is_border) ["row", "column", "width"]
  d_on_band : DefK K mg "on_band" (defArgs s_on_band) (defBody s_on_band) (defScope s_on_band) ["name", "row", "column", "width"]
  d_check_figure : DefK K mg "check_figure" (defArgs s_check_figure) (defBody s_check_figure) (defScope s_check_figure) ["name"]
  d_figure_places : DefK K mg "figure_places" (defArgs s_figure_places) (defBody s_figure_places) (defScope s_figure_places) ["name"]
  d_squares : DefK K mg "squares" (defArgs s_squares) (defBody s_squares) (defScope s_squares) []
  d_on_band_rows : DefK K mg "on_band_rows" (defArgs s_on_band_rows) (defBody s_on_band_rows) (defScope s_on_band_rows) ["name", "band"]
  d__law_flat : DefK K mg "_law_flat" (defArgs s__law_flat) (defBody s__law_flat) (defScope s__law_flat) ["rows"]
  d_between : DefK K mg "between" (defArgs s_between) (defBody s_between) (defScope s_between) ["name", "band"]
  d_figure_size : DefK K mg "figure_size" (defArgs s_figure_size) (defBody s_figure_size) (defScope s_figure_size) ["name"]
  d_sown : DefK K mg "sown" (defArgs s_sown) (defBody s_sown) (defScope s_sown) ["name", "apart"]
  d_law : DefK K mg "law" (defArgs s_law) (defBody s_law) (defScope s_law) ["script"]
  d_Band_places : MethK K Γ "Band" 3 "places" "Band.places" (defArgs s_Band_places) (defBody s_Band_places) (defScope s_Band_places) ["self"]
  d_Band___init__ : InitK K mg Γ "Band" 3 "Band.__init__" (defArgs s_Band___init__) (defBody s_Band___init__) (defScope s_Band___init__) ["self", "name", "colour", "width"]
section
variable {P : Program} {w : World} {K : PySem.W.Frag} {mg : Str → Option Value} {base : Heap} {Γ : Gx} {k : Nat}
def b__law_dice : MS := mDice
theorem sc__law_dice : FnScope ["cell"] ["cell"] (defScope s__law_dice) := ⟨rfl, rfl, rfl, by decide +kernel, rfl, by decide +kernel, by decide +kernel⟩
theorem w__law_dice (fx : Fx K w mg Γ)  {f : Addr} {A : Around} {outer : List Env} {s : Shared} {H : Hp} {E : XK} (S : Sx (cxOf (L2.CX P w) P w K mg base ["cell"] "_law_dice" (defScope s__law_dice) f (.ref (He.cT K ("_law_dice", none)).1) A outer s H E) Γ (WK E) (k + 1)) : SimSs (cxOf (L2.CX P w) P w K mg base ["cell"] "_law_dice" (defScope s__law_dice) f (.ref (He.cT K ("_law_dice", none)).1) A outer s H E) Γ (WK E) (defBody s__law_dice) (b__law_dice) := by exact (sim_seq (sim_sif (sim_tchain oc_lt oc_lt (sim_op oc_sub sim_int sim_int) (sim_tvar (pv 0)) sim_int) (sim_s1 (sim_ret (sim_lst (sim_cons (sim_bi bc_abs (by rfl) fx.n_abs boot_abs (sim_cons (sim_tvar (pv 0)) sim_nil)) (sim_cons sim_int (sim_cons sim_int sim_nil)))))) sim_snil) (sim_s1 (sim_ret (sim_lst (sim_cons (sim_tvar (pv 0)) (sim_cons (sim_op oc_add sim_int (sim_op oc_mod (sim_ty bc_int (by rfl) fx.n_int boot_int (sim_cons (sim_tvar (pv 0)) sim_nil)) sim_int)) (sim_cons (sim_ty bc_int (by rfl) fx.n_int boot_int (sim_cons (sim_cmp oc_ge (sim_tvar (pv 0)) (sim_op oc_pow sim_int sim_int)) sim_nil)) sim_nil)))))))
theorem k__law_dice (hK : Γ.K = K) (fx : Fx K w mg Γ)  : Kn P w K mg base Γ (k + 2) "_law_dice" 1 (fnM 1 (b__law_dice)) := fx.d__law_dice.knC sc__law_dice hK rfl fun _ _ _ _ _ _ S => w__law_dice fx S
def b__law_roll : MS := mRoll
theorem sc__law_roll : FnScope ["dice", "many", "found"] ["dice", "many"] (defScope s__law_roll) := ⟨rfl, rfl, rfl, by decide +kernel, rfl, by decide +kernel, by decide +kernel⟩
theorem w__law_roll (fx : Fx K w mg Γ)  {f : Addr} {A : Around} {outer : List Env} {s : Shared} {H : Hp} {E : XK} (S : Sx (cxOf (L2.CX P w) P w K mg base ["dice", "many", "found"] "_law_roll" (defScope s__law_roll) f (.ref (He.cT K ("_law_roll", none)).1) A outer s H E) Γ (WK E) (k + 1)) : SimSs (cxOf (L2.CX P w) P w K mg base ["dice", "many", "found"] "_law_roll" (defScope s__law_roll) f (.ref (He.cT K ("_law_roll", none)).1) A outer s H E) Γ (WK E) (defBody s__law_roll) (b__law_roll) := by exact (sim_seq (sim_sif (PW.pt (sw_or (sim_tcmp oc_eq (sim_ix (sim_tvar (pv 0)) sim_int) sim_int) (sw_or1 (PW.pt (sw_and (sim_tcmp oc_eq (sim_ix (sim_tvar (pv 0)) sim_int) sim_int) (sw_and1 (sim_tcmp oc_gt (sim_ix (sim_tvar (pv 0)) sim_int) sim_int))))))) (sim_seq (sim_set (i := 2) (sim_op oc_mod (sim_ty bc_int (by rfl) fx.n_int boot_int (sim_cons (sim_ix (sim_tvar (pv 0)) sim_int) sim_nil)) (sim_tvar (pv 1))) rfl (by first | exact .inl rfl | exact .inr rfl)) (sim_seq (sim_setL (sim_op oc_div (sim_ix (sim_tvar (pv 0)) sim_int) (sim_tvar (pv 1))) (sim_tvar (pv 0)) sim_int) (sim_s1 (sim_ret (sim_tvar (pv 2)))))) sim_snil) (sim_seq (sim_setL sim_int (sim_tvar (pv 0)) sim_int) (sim_seq (sim_setL (sim_op oc_mod (sim_ty bc_int (by rfl) fx.n_int boot_int (sim_cons (sim_op oc_add (sim_op oc_add (sim_op oc_mul (sim_ix (sim_tvar (pv 0)) sim_int) sim_int) (sim_op oc_mul (sim_ix (sim_tvar (pv 0)) sim_int) sim_int)) sim_int) sim_nil)) sim_int) (sim_tvar (pv 0)) sim_int) (sim_seq (sim_setL (sim_op oc_add (sim_ix (sim_tvar (pv 0)) sim_int) sim_int) (sim_tvar (pv 0)) sim_int) (sim_s1 (sim_ret (sim_op oc_mod (sim_ty bc_int (by rfl) fx.n_int boot_int (sim_cons (sim_op oc_add (sim_op oc_div (sim_ix (sim_tvar (pv 0)) sim_int) sim_int) (sim_ix (sim_tvar (pv 0)) sim_int)) sim_nil)) (sim_tvar (pv 1)))))))))
theorem k__law_roll (hK : Γ.K = K) (fx : Fx K w mg Γ)  : Kn P w K mg base Γ (k + 2) "_law_roll" 2 (fnM 3 (b__law_roll)) := fx.d__law_roll.knC sc__law_roll hK rfl fun _ _ _ _ _ _ S => w__law_roll fx S
def b__law_rounds (f__law_dice : Fn) : MS := (mRounds f__law_dice)
theorem sc__law_rounds : FnScope ["script", "most", "cells", "cell"] ["script", "most"] (defScope s__law_rounds) := ⟨rfl, rfl, rfl, by decide +kernel, rfl, by decide +kernel, by decide +kernel⟩
theorem w__law_rounds (fx : Fx K w mg Γ) {f__law_dice : Fn} (h__law_dice : Kn P w K mg base Γ k "_law_dice" 1 f__law_dice) {f : Addr} {A : Around} {outer : List Env} {s : Shared} {H : Hp} {E : XK} (S : Sx (cxOf (L2.CX P w) P w K mg base ["script", "most", "cells", "cell"] "_law_rounds" (defScope s__law_rounds) f (.ref (He.cT K ("_law_rounds", none)).1) A outer s H E) Γ (WK E) (k + 1)) : SimSs (cxOf (L2.CX P w) P w K mg base ["script", "most", "cells", "cell"] "_law_rounds" (defScope s__law_rounds) f (.ref (He.cT K ("_law_rounds", none)).1) A outer s H E) Γ (WK E) (defBody s__law_rounds) (b__law_rounds f__law_dice) := by exact (sim_seq (sim_set (i := 2) (sim_sl (sim_tvar (pv 0)) sim_ono (sim_osome (sim_tvar (pv 1)))) rfl (by first | exact .inl rfl | exact .inr rfl)) (sim_seq (sim_sif (sim_tcmp oc_eq (sim_tvar (pv 2)) (sim_lst sim_nil)) (sim_s1 (sim_set (i := 2) (sim_lst (sim_cons sim_int sim_nil)) rfl (by first | exact .inl rfl | exact .inr rfl))) sim_snil) (sim_s1 (sim_ret (sim_comp (own := [("cell", 3)]) (blkOk_by (by kernel_rfl)) (sim_iany (sim_tvar (pv 2))) (fun _ _ _ _ _ => by exact (sim_gname (i := 3) rfl (by first | exact .inl rfl | exact .inr rfl))) (fun _ _ _ _ _ => by exact sim_tests0) (fun _ _ _ _ _ => by exact (sim_call h__law_dice (by omega) (sim_cons (sim_tvar (pv 3)) sim_nil))))))))
theorem k__law_rounds (hK : Γ.K = K) (fx : Fx K w mg Γ) {f__law_dice : Fn} (h__law_dice : Kn P w K mg base Γ k "_law_dice" 1 f__law_dice) : Kn P w K mg base Γ (k + 2) "_law_rounds" 2 (fnM 4 (b__law_rounds f__law_dice)) := fx.d__law_rounds.knC sc__law_rounds hK rfl fun _ _ _ _ _ _ S => w__law_rounds fx h__law_dice S
def b_check_colour : MS := sIf (tV (e2 (vInY wtabs true) (eVar 0) (eC c_LETTERS))) (sRaise 1) (sNil)
theorem sc_check_colour : FnScope ["name"] ["name"] (defScope s_check_colour) := ⟨rfl, rfl, rfl, by decide +kernel, rfl, by decide +kernel, by decide +kernel⟩
theorem w_check_colour (fx : Fx K w mg Γ)  {f : Addr} {A : Around} {outer : List Env} {s : Shared} {H : Hp} {E : XK} (S : Sx (cxOf (L2.CX P w) P w K mg base ["name"] "check_colour" (defScope s_check_colour) f (.ref (He.cT K ("check_colour", none)).1) A outer s H E) Γ (WK E) (k + 1)) : SimSs (cxOf (L2.CX P w) P w K mg base ["name"] "check_colour" (defScope s_check_colour) f (.ref (He.cT K ("check_colour", none)).1) A outer s H E) Γ (WK E) (defBody s_check_colour) (b_check_colour) := by exact (sim_s1 (sim_sif (sim_tcmp (oc_ninY fx.wd) (sim_tvar (pv 0)) (sim_glob fx.g_LETTERS)) (sim_s1 (sim_raise fx.x_BadColour)) sim_snil))
theorem k_check_colour (hK : Γ.K = K) (fx : Fx K w mg Γ)  : Kn P w K mg base Γ (k + 2) "check_colour" 1 (fnM 1 (b_check_colour)) := fx.d_check_colour.knC sc_check_colour hK rfl fun _ _ _ _ _ _ S => w_check_colour fx S
def b_within : MS := sRet (eAnd2 (eChain vLe vLt (eC (.int 0)) (eVar 0) (eC c_HIGH)) (eChain vLe vLt (e2 (vIxX wtabs) (e2 (vIxX wtabs) (eC c_SPANS) (eVar 0)) (eC (.int 0))) (eVar 1) (e2 (vIxX wtabs) (e2 (vIxX wtabs) (eC c_SPANS) (eVar 0)) (eC (.int 1)))))
theorem sc_within : FnScope ["row", "column"] ["row", "column"] (defScope s_within) := ⟨rfl, rfl, rfl, by decide +kernel, rfl, by decide +kernel, by decide +kernel⟩
theorem w_within (fx : Fx K w mg Γ)  {f : Addr} {A : Around} {outer : List Env} {s : Shared} {H : Hp} {E : XK} (S : Sx (cxOf (L2.CX P w) P w K mg base ["row", "column"] "within" (defScope s_within) f (.ref (He.cT K ("within", none)).1) A outer s H E) Γ (WK E) (k + 1)) : SimSs (cxOf (L2.CX P w) P w K mg base ["row", "column"] "within" (defScope s_within) f (.ref (He.cT K ("within", none)).1) A outer s H E) Γ (WK E) (defBody s_within) (b_within) := by exact (sim_s1 (sim_ret (sim_and (sim_chain oc_le oc_lt sim_int (sim_tvar (pv 0)) (sim_glob fx.g_HIGH)) (sim_b1 (sim_chain oc_le oc_lt (sim_ixX fx.wd (sim_ixX fx.wd (sim_glob fx.g_SPANS) (sim_tvar (pv 0))) sim_int) (sim_tvar (pv 1)) (sim_ixX fx.wd (sim_ixX fx.wd (sim_glob fx.g_SPANS) (sim_tvar (pv 0))) sim_int))))))
theorem k_within (hK : Γ.K = K) (fx : Fx K w mg Γ)  : Kn P w K mg base Γ (k + 2) "within" 2 (fnM 2 (b_within)) := fx.d_within.knC sc_within hK rfl fun _ _ _ _ _ _ S => w_within fx S
def b_is_border (f_within : Fn) : MS := sSeq (sFor (mIt (evA [eC (.int 1), e2 vAdd (eVar 2) (eC (.int 1))]) itR2) (gNm 3) (sFor (mIt (eTup [eTup [e2 vAdd (eVar 0) (eVar 3), eVar 1], eTup [e2 vSub (eVar 0) (eVar 3), eVar 1], eTup [eVar 0, e2 vAdd (eVar 1) (eVar 3)], eTup [eVar 0, e2 vSub (eVar 1) (eVar 3)]]) itAny) (gTp 2 (gsCons (gNm 4) (gsCons (gNm 5) (gsNil)))) (sIf (tNot1 (tV (eBi f_within [eVar 4, eVar 5]))) (sRet (eC (.bl true))) (sNil)))) (sRet (eC (.bl false)))
theorem sc_is_border : FnScope ["row", "column", "width", "step", "a", "b"] ["row", "column", "width"] (defScope s_is_border) := ⟨rfl, rfl, rfl, by decide +kernel, rfl, by decide +kernel, by decide +kernel⟩
theorem w_is_border (fx : Fx K w mg Γ) {f_within : Fn} (h_within : Kn P w K mg base Γ k "within" 2 f_within) {f : Addr} {A : Around} {outer : List Env} {s : Shared} {H : Hp} {E : XK} (S : Sx (cxOf (L2.CX P w) P w K mg base ["row", "column", "width", "step", "a", "b"] "is_border" (defScope s_is_border) f (.ref (He.cT K ("is_border", none)).1) A outer s H E) Γ (WK E) (k + 1)) : SimSs (cxOf (L2.CX P w) P w K mg base ["row", "column", "width", "step", "a", "b"] "is_border" (defScope s_is_border) f (.ref (He.cT K ("is_border", none)).1) A outer s H E) Γ (WK E) (defBody s_is_border) (b_is_border f_within) := by exact (sim_seq (sim_for (passes_of rfl) (sim_r2 (by rfl) fx.n_range (sim_cons sim_int (sim_cons (sim_op oc_add (sim_tvar (pv 2)) sim_int) sim_nil))) (sim_gname (i := 3) rfl (by first | exact .inl rfl | exact .inr rfl)) (sim_s1 (sim_for (passes_of rfl) (sim_iany (sim_tup (sim_cons (sim_tup (sim_cons (sim_op oc_add (sim_tvar (pv 0)) (sim_tvar (pv 3))) (sim_cons (sim_tvar (pv 1)) sim_nil))) (sim_cons (sim_tup (sim_cons (sim_op oc_sub (sim_tvar (pv 0)) (sim_tvar (pv 3))) (sim_cons (sim_tvar (pv 1)) sim_nil))) (sim_cons (sim_tup (sim_cons (sim_tvar (pv 0)) (sim_cons (sim_op oc_add (sim_tvar (pv 1)) (sim_tvar (pv 3))) sim_nil))) (sim_cons (sim_tup (sim_cons (sim_tvar (pv 0)) (sim_cons (sim_op oc_sub (sim_tvar (pv 1)) (sim_tvar (pv 3))) sim_nil))) sim_nil)))))) (sim_gtup (sim_gscons (sim_gname (i := 4) rfl (by first | exact .inl rfl | exact .inr rfl)) (sim_gscons (sim_gname (i := 5) rfl (by first | exact .inl rfl | exact .inr rfl)) sim_gsnil))) (sim_s1 (sim_sif (sim_tnot (sim_tv (sim_call h_within (by omega) (sim_cons (sim_tvar (pv 4)) (sim_cons (sim_tvar (pv 5)) sim_nil))))) (sim_s1 (sim_ret sim_bl)) sim_snil))))) (sim_s1 (sim_ret sim_bl)))
theorem k_is_border (hK : Γ.K = K) (fx : Fx K w mg Γ) {f_within : Fn} (h_within : Kn P w K mg base Γ k "within" 2 f_within) : Kn P w K mg base Γ (k + 2) "is_border" 3 (fnM 6 (b_is_border f_within)) := fx.d_is_border.knC sc_is_border hK rfl fun _ _ _ _ _ _ S => w_is_border fx h_within S
def b_on_band (f_on_band f_is_border : Fn) : MS := sSeq (sIf (tV (e2 (vInY wtabs true) (eVar 0) (eC c_NAMES))) (sRaise 2) (sNil)) (sSeq (sIf (tNot1 (tV (eChain vLe vLe (eC (.int 1)) (eVar 3) (eC (.int 6))))) (sRaise 2) (sNil)) (sSeq (sIf (tV (e2 (vEq false) (eVar 0) (eC (.str [112, 97, 108, 101])))) (sRet (e2 vLt (eBi bAbs [e2 vAdd (e2 vSub (e2 vMul (eC (.int 2)) (eVar 2)) (eC c_WIDE)) (eC (.int 1))]) (e2 vMul (eC (.int 2)) (eVar 3)))) (sNil)) (sSeq (sIf (tV (e2 (vEq false) (eVar 0) (eC (.str [102, 101, 115, 115])))) (sRet (e2 vLt (eBi bAbs [e2 vAdd (e2 vSub (e2 vMul (eC (.int 2)) (eVar 1)) (eC c_HIGH)) (eC (.int 1))]) (e2 vMul (eC (.int 2)) (eVar 3)))) (sNil)) (sSeq (sIf (tV (e2 (vEq false) (eVar 0) (eC (.str [98, 101, 110, 100])))) (sRet (e2 vLt (eBi bAbs [e2 vSub (eVar 1) (eVar 2)]) (eVar 3))) (sNil)) (sSeq (sIf (tV (e2 (vEq false) (eVar 0) (eC (.str [115, 105, 110, 105, 115, 116, 101, 114])))) (sRet (e2 vLt (eBi bAbs [e2 vSub (eVar 1) (e2 vSub (e2 vSub (eC c_WIDE) (eC (.int 1))) (eVar 2))]) (eVar 3))) (sNil)) (sSeq (sIf (tV (e2 (vEq false) (eVar 0) (eC (.str [99, 104, 101, 118, 114, 111, 110])))) (sRet (eChain vLe vLt (eC (.int 0)) (e2 vSub (e2 vSub (eVar 1) (eC (.int 3))) (e2 vDiv (eBi bAbs [e2 vAdd (e2 vSub (e2 vMul (eC (.int 2)) (eVar 2)) (eC c_WIDE)) (eC (.int 1))]) (eC (.int 2)))) (eVar 3))) (sNil)) (sSeq (sIf (tV (e2 (vEq false) (eVar 0) (eC (.str [99, 114, 111, 115, 115])))) (sRet (eOr2 (eBi f_on_band [eC (.str [112, 97, 108, 101]), eVar 1, eVar 2, eVar 3]) (e2 vLt (eBi bAbs [e2 vAdd (e2 vSub (e2 vMul (eC (.int 2)) (eVar 1)) (eC c_WIDE)) (eC (.int 1))]) (e2 vMul (eC (.int 2)) (eVar 3))))) (sNil)) (sSeq (sIf (tV (e2 (vEq false) (eVar 0) (eC (.str [115, 97, 108, 116, 105, 114, 101])))) (sRet (eOr2 (eBi f_on_band [eC (.str [98, 101, 110, 100]), eVar 1, eVar 2, eVar 3]) (eBi f_on_band [eC (.str [115, 105, 110, 105, 115, 116, 101, 114]), eVar 1, eVar 2, eVar 3]))) (sNil)) (sSeq (sIf (tV (e2 (vEq false) (eVar 0) (eC (.str [99, 104, 105, 101, 102])))) (sRet (e2 vLt (eVar 1) (eVar 3))) (sNil)) (sSeq (sIf (tV (e2 (vEq false) (eVar 0) (eC (.str [98, 97, 115, 101])))) (sRet (e2 vGe (eVar 1) (e2 vSub (eC c_HIGH) (e2 vMul (eC (.int 2)) (eVar 3))))) (sNil)) (sSeq (sIf (tV (e2 (vEq false) (eVar 0) (eC (.str [99, 97, 110, 116, 111, 110])))) (sRet (eAnd2 (e2 vLt (eVar 1) (e2 vAdd (eVar 3) (eC (.int 1)))) (e2 vLt (eVar 2) (e2 vAdd (eVar 3) (eC (.int 1)))))) (sNil)) (sRet (eBi f_is_border [eVar 1, eVar 2, eVar 3])))))))))))))
theorem sc_on_band : FnScope ["name", "row", "column", "width"] ["name", "row", "column", "width"] (defScope s_on_band) := ⟨rfl, rfl, rfl, by decide +kernel, rfl, by decide +kernel, by decide +kernel⟩
theorem w_on_band (fx : Fx K w mg Γ) {f_on_band f_is_border : Fn} (h_on_band : Kn P w K mg base Γ k "on_band" 4 f_on_band) (h_is_border : Kn P w K mg base Γ k "is_border" 3 f_is_border) {f : Addr} {A : Around} {outer : List Env} {s : Shared} {H : Hp} {E : XK} (S : Sx (cxOf (L2.CX P w) P w K mg base ["name", "row", "column", "width"] "on_band" (defScope s_on_band) f (.ref (He.cT K ("on_band", none)).1) A outer s H E) Γ (WK E) (k + 1)) : SimSs (cxOf (L2.CX P w) P w K mg base ["name", "row", "column", "width"] "on_band" (defScope s_on_band) f (.ref (He.cT K ("on_band", none)).1) A outer s H E) Γ (WK E) (defBody s_on_band) (b_on_band f_on_band f_is_border) := by exact (sim_seq (sim_sif (sim_tcmp (oc_ninY fx.wd) (sim_tvar (pv 0)) (sim_glob fx.g_NAMES)) (sim_s1 (sim_raise fx.x_BadShape)) sim_snil) (sim_seq (sim_sif (sim_tnot (sim_tchain oc_le oc_le sim_int (sim_tvar (pv 3)) sim_int)) (sim_s1 (sim_raise fx.x_BadShape)) sim_snil) (sim_seq (sim_sif (sim_tcmp oc_eq (sim_tvar (pv 0)) (sim_str (s := [112, 97, 108, 101]))) (sim_s1 (sim_ret (sim_cmp oc_lt (sim_bi bc_abs (by rfl) fx.n_abs boot_abs (sim_cons (sim_op oc_add (sim_op oc_sub (sim_op oc_mul sim_int (sim_tvar (pv 2))) (sim_glob fx.g_WIDE)) sim_int) sim_nil)) (sim_op oc_mul sim_int (sim_tvar (pv 3)))))) sim_snil) (sim_seq (sim_sif (sim_tcmp oc_eq (sim_tvar (pv 0)) (sim_str (s := [102, 101, 115, 115]))) (sim_s1 (sim_ret (sim_cmp oc_lt (sim_bi bc_abs (by rfl) fx.n_abs boot_abs (sim_cons (sim_op oc_add (sim_op oc_sub (sim_op oc_mul sim_int (sim_tvar (pv 1))) (sim_glob fx.g_HIGH)) sim_int) sim_nil)) (sim_op oc_mul sim_int (sim_tvar (pv 3)))))) sim_snil) (sim_seq (sim_sif (sim_tcmp oc_eq (sim_tvar (pv 0)) (sim_str (s := [98, 101, 110, 100]))) (sim_s1 (sim_ret (sim_cmp oc_lt (sim_bi bc_abs (by rfl) fx.n_abs boot_abs (sim_cons (sim_op oc_sub (sim_tvar (pv 1)) (sim_tvar (pv 2))) sim_nil)) (sim_tvar (pv 3))))) sim_snil) (sim_seq (sim_sif (sim_tcmp oc_eq (sim_tvar (pv 0)) (sim_str (s := [115, 105, 110, 105, 115, 116, 101, 114]))) (sim_s1 (sim_ret (sim_cmp oc_lt (sim_bi bc_abs (by rfl) fx.n_abs boot_abs (sim_cons (sim_op oc_sub (sim_tvar (pv 1)) (sim_op oc_sub (sim_op oc_sub (sim_glob fx.g_WIDE) sim_int) (sim_tvar (pv 2)))) sim_nil)) (sim_tvar (pv 3))))) sim_snil) (sim_seq (sim_sif (sim_tcmp oc_eq (sim_tvar (pv 0)) (sim_str (s := [99, 104, 101, 118, 114, 111, 110]))) (sim_s1 (sim_ret (sim_chain oc_le oc_lt sim_int (sim_op oc_sub (sim_op oc_sub (sim_tvar (pv 1)) sim_int) (sim_op oc_div (sim_bi bc_abs (by rfl) fx.n_abs boot_abs (sim_cons (sim_op oc_add (sim_op oc_sub (sim_op oc_mul sim_int (sim_tvar (pv 2))) (sim_glob fx.g_WIDE)) sim_int) sim_nil)) sim_int)) (sim_tvar (pv 3))))) sim_snil) (sim_seq (sim_sif (sim_tcmp oc_eq (sim_tvar (pv 0)) (sim_str (s := [99, 114, 111, 115, 115]))) (sim_s1 (sim_ret (sim_or (sim_call h_on_band (by omega) (sim_cons (sim_str (s := [112, 97, 108, 101])) (sim_cons (sim_tvar (pv 1)) (sim_cons (sim_tvar (pv 2)) (sim_cons (sim_tvar (pv 3)) sim_nil))))) (sim_b1 (sim_cmp oc_lt (sim_bi bc_abs (by rfl) fx.n_abs boot_abs (sim_cons (sim_op oc_add (sim_op oc_sub (sim_op oc_mul sim_int (sim_tvar (pv 1))) (sim_glob fx.g_WIDE)) sim_int) sim_nil)) (sim_op oc_mul sim_int (sim_tvar (pv 3)))))))) sim_snil) (sim_seq (sim_sif (sim_tcmp oc_eq (sim_tvar (pv 0)) (sim_str (s := [115, 97, 108, 116, 105, 114, 101]))) (sim_s1 (sim_ret (sim_or (sim_call h_on_band (by omega) (sim_cons (sim_str (s := [98, 101, 110, 100])) (sim_cons (sim_tvar (pv 1)) (sim_cons (sim_tvar (pv 2)) (sim_cons (sim_tvar (pv 3)) sim_nil))))) (sim_b1 (sim_call h_on_band (by omega) (sim_cons (sim_str (s := [115, 105, 110, 105, 115, 116, 101, 114])) (sim_cons (sim_tvar (pv 1)) (sim_cons (sim_tvar (pv 2)) (sim_cons (sim_tvar (pv 3)) sim_nil))))))))) sim_snil) (sim_seq (sim_sif (sim_tcmp oc_eq (sim_tvar (pv 0)) (sim_str (s := [99, 104, 105, 101, 102]))) (sim_s1 (sim_ret (sim_cmp oc_lt (sim_tvar (pv 1)) (sim_tvar (pv 3))))) sim_snil) (sim_seq (sim_sif (sim_tcmp oc_eq (sim_tvar (pv 0)) (sim_str (s := [98, 97, 115, 101]))) (sim_s1 (sim_ret (sim_cmp oc_ge (sim_tvar (pv 1)) (sim_op oc_sub (sim_glob fx.g_HIGH) (sim_op oc_mul sim_int (sim_tvar (pv 3))))))) sim_snil) (sim_seq (sim_sif (sim_tcmp oc_eq (sim_tvar (pv 0)) (sim_str (s := [99, 97, 110, 116, 111, 110]))) (sim_s1 (sim_ret (sim_and (sim_cmp oc_lt (sim_tvar (pv 1)) (sim_op oc_add (sim_tvar (pv 3)) sim_int)) (sim_b1 (sim_cmp oc_lt (sim_tvar (pv 2)) (sim_op oc_add (sim_tvar (pv 3)) sim_int)))))) sim_snil) (sim_s1 (sim_ret (sim_call h_is_border (by omega) (sim_cons (sim_tvar (pv 1)) (sim_cons (sim_tvar (pv 2)) (sim_cons (sim_tvar (pv 3)) sim_nil))))))))))))))))))
theorem k_on_band (hK : Γ.K = K) (fx : Fx K w mg Γ) {f_on_band f_is_border : Fn} (h_on_band : Kn P w K mg base Γ k "on_band" 4 f_on_band) (h_is_border : Kn P w K mg base Γ k "is_border" 3 f_is_border) : Kn P w K mg base Γ (k + 2) "on_band" 4 (fnM 4 (b_on_band f_on_band f_is_border)) := fx.d_on_band.knC sc_on_band hK rfl fun _ _ _ _ _ _ S => w_on_band fx h_on_band h_is_border S
def b_Band___init__ (f_check_colour f_on_band : Fn) : MS := sSeq (sExp (eBi f_check_colour [eVar 2])) (sSeq (sExp (eBi f_on_band [eVar 1, eC (.int 0), eC (.int 0), eVar 3])) (sSeq (sFldC ftab 0 (eVar 0) (eVar 1)) (sSeq (sFldC ftab 1 (eVar 0) (eVar 2)) (sFldC ftab 2 (eVar 0) (eVar 3)))))
theorem sc_Band___init__ : FnScope ["self", "name", "colour", "width"] ["self", "name", "colour", "width"] (defScope s_Band___init__) := ⟨rfl, rfl, rfl, by decide +kernel, rfl, by decide +kernel, by decide +kernel⟩
theorem w_Band___init__ (fx : Fx K w mg Γ) {f_check_colour f_on_band : Fn} (h_check_colour : Kn P w K mg base Γ k "check_colour" 1 f_check_colour) (h_on_band : Kn P w K mg base Γ k "on_band" 4 f_on_band) {f : Addr} {A : Around} {outer : List Env} {s : Shared} {H : Hp} {E : XK} (S : Sx (cxOf (L2.CX P w) P w K mg base ["self", "name", "colour", "width"] "Band.__init__" (defScope s_Band___init__) f (.ref (He.cT K ("Band", some "__init__")).1) A outer s H E) Γ (WK E) (k + 1)) : SimSs (cxOf (L2.CX P w) P w K mg base ["self", "name", "colour", "width"] "Band.__init__" (defScope s_Band___init__) f (.ref (He.cT K ("Band", some "__init__")).1) A outer s H E) Γ (WK E) (defBody s_Band___init__) (b_Band___init__ f_check_colour f_on_band) := by exact (sim_seq (sim_exp (sim_call h_check_colour (by omega) (sim_cons (sim_tvar (pv 2)) sim_nil))) (sim_seq (sim_exp (sim_call h_on_band (by omega) (sim_cons (sim_tvar (pv 1)) (sim_cons sim_int (sim_cons sim_int (sim_cons (sim_tvar (pv 3)) sim_nil)))))) (sim_seq (sim_setFld fx.T (fx.f_name) (sim_tvar (pv 0)) (sim_tvar (pv 1))) (sim_seq (sim_setFld fx.T (fx.f_colour) (sim_tvar (pv 0)) (sim_tvar (pv 2))) (sim_s1 (sim_setFld fx.T (fx.f_width) (sim_tvar (pv 0)) (sim_tvar (pv 3))))))))
theorem k_Band___init__ (hK : Γ.K = K) (fx : Fx K w mg Γ) {f_check_colour f_on_band : Fn} (h_check_colour : Kn P w K mg base Γ k "check_colour" 1 f_check_colour) (h_on_band : Kn P w K mg base Γ k "on_band" 4 f_on_band) : KnC P w K mg base Γ (k + 2) "Band" 3 4 (fnM 4 (b_Band___init__ f_check_colour f_on_band)) := fx.d_Band___init__.kn sc_Band___init__ hK rfl fun _ _ _ _ _ _ S => w_Band___init__ fx h_check_colour h_on_band S
def b_check_figure : MS := sIf (tV (e2 (vInY wtabs true) (eVar 0) (eC c_FIGURES))) (sRaise 2) (sNil)
theorem sc_check_figure : FnScope ["name"] ["name"] (defScope s_check_figure) := ⟨rfl, rfl, rfl, by decide +kernel, rfl, by decide +kernel, by decide +kernel⟩
theorem w_check_figure (fx : Fx K w mg Γ)  {f : Addr} {A : Around} {outer : List Env} {s : Shared} {H : Hp} {E : XK} (S : Sx (cxOf (L2.CX P w) P w K mg base ["name"] "check_figure" (defScope s_check_figure) f (.ref (He.cT K ("check_figure", none)).1) A outer s H E) Γ (WK E) (k + 1)) : SimSs (cxOf (L2.CX P w) P w K mg base ["name"] "check_figure" (defScope s_check_figure) f (.ref (He.cT K ("check_figure", none)).1) A outer s H E) Γ (WK E) (defBody s_check_figure) (b_check_figure) := by exact (sim_s1 (sim_sif (sim_tcmp (oc_ninY fx.wd) (sim_tvar (pv 0)) (sim_glob fx.g_FIGURES)) (sim_s1 (sim_raise fx.x_BadShape)) sim_snil))
theorem k_check_figure (hK : Γ.K = K) (fx : Fx K w mg Γ)  : Kn P w K mg base Γ (k + 2) "check_figure" 1 (fnM 1 (b_check_figure)) := fx.d_check_figure.knC sc_check_figure hK rfl fun _ _ _ _ _ _ S => w_check_figure fx S
def b_figure_places (f_check_figure : Fn) : MS := sSeq (sExp (eBi f_check_figure [eVar 0])) (sSeq (sAsg (gNm 1) (e2 (vIxX wtabs) (eC c_FIGURES) (eVar 0))) (sRet (eBi bTuple [scopM (eComp2 (mIt (evA [eVar 1]) itEnA) (gTp 2 (gsCons (gNm 2) (gsCons (gNm 3) (gsNil)))) (tTrue) (mIt (evA [eVar 3]) itEnA) (gTp 2 (gsCons (gNm 4) (gsCons (gNm 5) (gsNil)))) (tV (e2 (vEq false) (eVar 5) (eC (.str [35])))) (eTup [eVar 2, eVar 4]) [2, 3, 4, 5] [4, 5])])))
theorem sc_figure_places : FnScope ["name", "rows", "j", "row", "k", "sign"] ["name"] (defScope s_figure_places) := ⟨rfl, rfl, rfl, by decide +kernel, rfl, by decide +kernel, by decide +kernel⟩
theorem w_figure_places (fx : Fx K w mg Γ) {f_check_figure : Fn} (h_check_figure : Kn P w K mg base Γ k "check_figure" 1 f_check_figure) {f : Addr} {A : Around} {outer : List Env} {s : Shared} {H : Hp} {E : XK} (S : Sx (cxOf (L2.CX P w) P w K mg base ["name", "rows", "j", "row", "k", "sign"] "figure_places" (defScope s_figure_places) f (.ref (He.cT K ("figure_places", none)).1) A outer s H E) Γ (WK E) (k + 1)) : SimSs (cxOf (L2.CX P w) P w K mg base ["name", "rows", "j", "row", "k", "sign"] "figure_places" (defScope s_figure_places) f (.ref (He.cT K ("figure_places", none)).1) A outer s H E) Γ (WK E) (defBody s_figure_places) (b_figure_places f_check_figure) := by exact (sim_seq (sim_exp (sim_call h_check_figure (by omega) (sim_cons (sim_tvar (pv 0)) sim_nil))) (sim_seq (sim_set (i := 1) (sim_ixX fx.wd (sim_glob fx.g_FIGURES) (sim_tvar (pv 0))) rfl (by first | exact .inl rfl | exact .inr rfl)) (sim_s1 (sim_ret (sim_ty bc_tuple (by rfl) fx.n_tuple boot_tuple (sim_cons (sim_scop (sim_comp2 (own := [("j", 2), ("row", 3), ("k", 4), ("sign", 5)]) (vs1 := [4, 5]) (blkOk_by (by kernel_rfl)) (sim_ienA (by rfl) fx.n_enumerate (sim_cons (sim_tvar (pv 1)) sim_nil)) (fun _ _ _ _ _ => by exact (sim_gtup (sim_gscons (sim_gname (i := 2) rfl (by first | exact .inl rfl | exact .inr rfl)) (sim_gscons (sim_gname (i := 3) rfl (by first | exact .inl rfl | exact .inr rfl)) sim_gsnil)))) (fun _ _ _ _ _ => by exact sim_tests0) (fun _ _ _ _ _ => by exact (sim_ienA (by rfl) fx.n_enumerate (sim_cons (sim_tvar (pv 3)) sim_nil))) (fun _ _ _ _ _ => by exact (sim_gtup (sim_gscons (sim_gname (i := 4) rfl (by first | exact .inl rfl | exact .inr rfl)) (sim_gscons (sim_gname (i := 5) rfl (by first | exact .inl rfl | exact .inr rfl)) sim_gsnil)))) (fun _ _ _ _ _ => by exact (sim_tests1 (sim_tcmp oc_eq (sim_tvar (pv 5)) (sim_str (s := [35]))))) (fun _ _ _ _ _ => by exact (sim_tup (sim_cons (sim_tvar (pv 2)) (sim_cons (sim_tvar (pv 4)) sim_nil)))))) sim_nil))))))
theorem k_figure_places (hK : Γ.K = K) (fx : Fx K w mg Γ) {f_check_figure : Fn} (h_check_figure : Kn P w K mg base Γ k "check_figure" 1 f_check_figure) : Kn P w K mg base Γ (k + 2) "figure_places" 1 (fnM 6 (b_figure_places f_check_figure)) := fx.d_figure_places.knC sc_figure_places hK rfl fun _ _ _ _ _ _ S => w_figure_places fx h_check_figure S
def b_squares : MS := sRet (eBi bTuple [scopM (eComp2 (mIt (evA [eC c_SPANS]) itEnA) (gTp 2 (gsCons (gNm 0) (gsCons (gTp 2 (gsCons (gNm 1) (gsCons (gNm 2) (gsNil)))) (gsNil)))) (tTrue) (mIt (evA [eVar 1, eVar 2]) itR2) (gNm 3) (tTrue) (eTup [eVar 0, eVar 3]) [0, 1, 2, 3] [3])])
theorem sc_squares : FnScope ["j", "low", "high", "k"] [] (defScope s_squares) := ⟨rfl, rfl, rfl, by decide +kernel, rfl, by decide +kernel, by decide +kernel⟩
theorem w_squares (fx : Fx K w mg Γ)  {f : Addr} {A : Around} {outer : List Env} {s : Shared} {H : Hp} {E : XK} (S : Sx (cxOf (L2.CX P w) P w K mg base ["j", "low", "high", "k"] "squares" (defScope s_squares) f (.ref (He.cT K ("squares", none)).1) A outer s H E) Γ (WK E) (k + 1)) : SimSs (cxOf (L2.CX P w) P w K mg base ["j", "low", "high", "k"] "squares" (defScope s_squares) f (.ref (He.cT K ("squares", none)).1) A outer s H E) Γ (WK E) (defBody s_squares) (b_squares) := by exact (sim_s1 (sim_ret (sim_ty bc_tuple (by rfl) fx.n_tuple boot_tuple (sim_cons (sim_scop (sim_comp2 (own := [("j", 0), ("low", 1), ("high", 2), ("k", 3)]) (vs1 := [3]) (blkOk_by (by kernel_rfl)) (sim_ienA (by rfl) fx.n_enumerate (sim_cons (sim_glob fx.g_SPANS) sim_nil)) (fun _ _ _ _ _ => by exact (sim_gtup (sim_gscons (sim_gname (i := 0) rfl (by first | exact .inl rfl | exact .inr rfl)) (sim_gscons (sim_gtup (sim_gscons (sim_gname (i := 1) rfl (by first | exact .inl rfl | exact .inr rfl)) (sim_gscons (sim_gname (i := 2) rfl (by first | exact .inl rfl | exact .inr rfl)) sim_gsnil))) sim_gsnil)))) (fun _ _ _ _ _ => by exact sim_tests0) (fun _ _ _ _ _ => by exact (sim_r2 (by rfl) fx.n_range (sim_cons (sim_tvar (pv 1)) (sim_cons (sim_tvar (pv 2)) sim_nil)))) (fun _ _ _ _ _ => by exact (sim_gname (i := 3) rfl (by first | exact .inl rfl | exact .inr rfl))) (fun _ _ _ _ _ => by exact sim_tests0) (fun _ _ _ _ _ => by exact (sim_tup (sim_cons (sim_tvar (pv 0)) (sim_cons (sim_tvar (pv 3)) sim_nil)))))) sim_nil))))
theorem k_squares (hK : Γ.K = K) (fx : Fx K w mg Γ)  : Kn P w K mg base Γ (k + 2) "squares" 0 (fnM 4 (b_squares)) := fx.d_squares.knC sc_squares hK rfl fun _ _ _ _ _ _ S => w_squares fx S
def b_Band_places (f_squares f_on_band : Fn) : MS := sRet (eBi bTuple [scopM (eComp (mIt (eCall0 f_squares) itAny) (gNm 1) (tV (eBi f_on_band [eFld ftab 0 (eVar 0), e2 (vIxX wtabs) (eVar 1) (eC (.int 0)), e2 (vIxX wtabs) (eVar 1) (eC (.int 1)), eFld ftab 2 (eVar 0)])) (eVar 1) [1])])
theorem sc_Band_places : FnScope ["self", "place"] ["self"] (defScope s_Band_places) := ⟨rfl, rfl, rfl, by decide +kernel, rfl, by decide +kernel, by decide +kernel⟩
theorem w_Band_places (fx : Fx K w mg Γ) {f_squares f_on_band : Fn} (h_squares : Kn P w K mg base Γ k "squares" 0 f_squares) (h_on_band : Kn P w K mg base Γ k "on_band" 4 f_on_band) {f : Addr} {A : Around} {outer : List Env} {s : Shared} {H : Hp} {E : XK} (S : Sx (cxOf (L2.CX P w) P w K mg base ["self", "place"] "Band.places" (defScope s_Band_places) f (.ref (He.cT K ("Band", some "places")).1) A outer s H E) Γ (WK E) (k + 1)) : SimSs (cxOf (L2.CX P w) P w K mg base ["self", "place"] "Band.places" (defScope s_Band_places) f (.ref (He.cT K ("Band", some "places")).1) A outer s H E) Γ (WK E) (defBody s_Band_places) (b_Band_places f_squares f_on_band) := by exact (sim_s1 (sim_ret (sim_ty bc_tuple (by rfl) fx.n_tuple boot_tuple (sim_cons (sim_scop (sim_comp (own := [("place", 1)]) (blkOk_by (by kernel_rfl)) (sim_iany (sim_call0 h_squares (by omega))) (fun _ _ _ _ _ => by exact (sim_gname (i := 1) rfl (by first | exact .inl rfl | exact .inr rfl))) (fun _ _ _ _ _ => by exact (sim_tests1 (sim_tv (sim_call h_on_band (by omega) (sim_cons (sim_fld fx.T (fx.f_name) (sim_tvar (pv 0))) (sim_cons (sim_ixX fx.wd (sim_tvar (pv 1)) sim_int) (sim_cons (sim_ixX fx.wd (sim_tvar (pv 1)) sim_int) (sim_cons (sim_fld fx.T (fx.f_width) (sim_tvar (pv 0))) sim_nil)))))))) (fun _ _ _ _ _ => by exact (sim_tvar (pv 1))))) sim_nil))))
theorem k_Band_places (hK : Γ.K = K) (fx : Fx K w mg Γ) {f_squares f_on_band : Fn} (h_squares : Kn P w K mg base Γ k "squares" 0 f_squares) (h_on_band : Kn P w K mg base Γ k "on_band" 4 f_on_band) : KnM P w K mg base Γ (k + 2) 3 "places" 1 (fnM 2 (b_Band_places f_squares f_on_band)) := fx.d_Band_places.kn sc_Band_places hK rfl fx.ne_Band_places fun _ _ _ _ _ _ S => w_Band_places fx h_squares h_on_band S
def b_on_band_rows (f_Band_places f_squares f_figure_places : Fn) : MS := sSeq (sAsg (gTp 3 (gsCons (gNm 2) (gsCons (gNm 3) (gsCons (gNm 4) (gsNil))))) (eTup [scopM (eDComp true (mIt (eMeth0 3 f_Band_places (eVar 1)) itAny) (gNm 8) (tTrue) (eVar 8) (eC (.bl true)) [8]), eDNew true, eLst []])) (sSeq (sFor (mIt (eCall0 f_squares) itAny) (gTp 2 (gsCons (gNm 5) (gsCons (gNm 6) (gsNil)))) (sSeq (sAsg (gNm 7) (scopM (eComp (mIt (eBi f_figure_places [eVar 0]) itAny) (gTp 2 (gsCons (gNm 9) (gsCons (gNm 10) (gsNil)))) (tTrue) (eTup [e2 vAdd (eVar 5) (eVar 9), e2 vAdd (eVar 6) (eVar 10)]) [9, 10]))) (sIf (tV (eAny true (mIt (eVar 7) itAny) (gNm 8) (tTrue) (eAnd2 (e2 (vInY wtabs false) (eVar 8) (eVar 2)) (e2 (vInY wtabs true) (eVar 8) (eVar 3))) [8])) (sSeq (sExp (eAppend (eVar 4) (eTup [eVar 5, eVar 6]))) (sFor (mIt (eVar 7) itAny) (gNm 8) (sDPutC (eC (.bl true)) (eVar 3) (eVar 8)))) (sNil)))) (sRet (eBi bTuple [eVar 4])))
theorem sc_on_band_rows : FnScope ["name", "band", "mine", "taken", "found", "row", "column", "places", "place", "j", "k"] ["name", "band"] (defScope s_on_band_rows) := ⟨rfl, rfl, rfl, by decide +kernel, rfl, by decide +kernel, by decide +kernel⟩
theorem w_on_band_rows (fx : Fx K w mg Γ) (gd : GxD K mg base Γ ("on_band_rows", none) "on_band_rows.<locals>.<genexpr>") {f_Band_places f_squares f_figure_places : Fn} (h_Band_places : KnM P w K mg base Γ k 3 "places" 1 f_Band_places) (h_squares : Kn P w K mg base Γ k "squares" 0 f_squares) (h_figure_places : Kn P w K mg base Γ k "figure_places" 1 f_figure_places) {f : Addr} {A : Around} {outer : List Env} {s : Shared} {H : Hp} {E : XK} (S : Sx (cxOf (L2.CX P w) P w K mg base ["name", "band", "mine", "taken", "found", "row", "column", "places", "place", "j", "k"] "on_band_rows" (defScope s_on_band_rows) f (.ref (He.cT K ("on_band_rows", none)).1) A outer s H E) Γ (WK E) (k + 1)) : SimSs (cxOf (L2.CX P w) P w K mg base ["name", "band", "mine", "taken", "found", "row", "column", "places", "place", "j", "k"] "on_band_rows" (defScope s_on_band_rows) f (.ref (He.cT K ("on_band_rows", none)).1) A outer s H E) Γ (WK E) (defBody s_on_band_rows) (b_on_band_rows f_Band_places f_squares f_figure_places) := by exact (sim_seq (sim_asg (sim_tup (sim_cons (sim_scop (sim_dcomp (t := true) (own := [("place", 8)]) (blkOk_by (by kernel_rfl)) (sim_iany (sim_meth0 h_Band_places (by omega) (sim_tvar (pv 1)))) (fun _ _ _ _ _ => by exact (sim_gname (i := 8) rfl (by first | exact .inl rfl | exact .inr rfl))) (fun _ _ _ _ _ => by exact sim_tests0) (fun _ _ _ _ _ => by exact (sim_tvar (pv 8))) (fun _ _ _ _ _ => by exact sim_bl))) (sim_cons sim_dnewT (sim_cons (sim_lst sim_nil) sim_nil)))) (sim_gtup (sim_gscons (sim_gname (i := 2) rfl (by first | exact .inl rfl | exact .inr rfl)) (sim_gscons (sim_gname (i := 3) rfl (by first | exact .inl rfl | exact .inr rfl)) (sim_gscons (sim_gname (i := 4) rfl (by first | exact .inl rfl | exact .inr rfl)) sim_gsnil))))) (sim_seq (sim_for (passes_of rfl) (sim_iany (sim_call0 h_squares (by omega))) (sim_gtup (sim_gscons (sim_gname (i := 5) rfl (by first | exact .inl rfl | exact .inr rfl)) (sim_gscons (sim_gname (i := 6) rfl (by first | exact .inl rfl | exact .inr rfl)) sim_gsnil))) (sim_seq (sim_asgZ (sim_setComp (i := 7) rfl rfl (by kernel_rfl) (own := [("j", 9), ("k", 10)]) (blkOk_by (by kernel_rfl)) (sim_iany (sim_call h_figure_places (by omega) (sim_cons (sim_tvar (pv 0)) sim_nil))) (fun _ _ _ _ _ => by exact (sim_gtup (sim_gscons (sim_gname (i := 9) rfl (by first | exact .inl rfl | exact .inr rfl)) (sim_gscons (sim_gname (i := 10) rfl (by first | exact .inl rfl | exact .inr rfl)) sim_gsnil)))) (fun _ _ _ _ _ => by exact sim_tests0) (fun _ _ _ _ _ => by exact (sim_tup (sim_cons (sim_op oc_add (sim_tvar (pv 5)) (sim_tvar (pv 9))) (sim_cons (sim_op oc_add (sim_tvar (pv 6)) (sim_tvar (pv 10))) sim_nil)))))) (sim_s1 (sim_sif (sim_tv (sim_all (k' := k) (own := [("place", 8)]) gd rfl (by omega) (gxS_by (by kernel_rfl)) (sim_iany (sim_tvar (pv 7))) (fun _ _ _ _ _ _ _ S' => by exact (sim_gname (i := 8) rfl (by first | exact .inl rfl | exact .inr rfl))) (fun _ _ _ _ _ _ _ S' => by exact sim_tests0) (fun _ _ _ _ _ _ _ S' => by exact (sim_and (sim_cmp (oc_inY fx.wd) (sim_tvar (pv 8)) (sim_tvar (pv 2))) (sim_b1 (sim_cmp (oc_ninY fx.wd) (sim_tvar (pv 8)) (sim_tvar (pv 3)))))) (by rfl) fx.n_all boot_all)) (sim_seq (sim_exp (sim_append (sim_tvar (pv 4)) (sim_tup (sim_cons (sim_tvar (pv 5)) (sim_cons (sim_tvar (pv 6)) sim_nil))))) (sim_s1 (sim_for (passes_of rfl) (sim_iany (sim_tvar (pv 7))) (sim_gname (i := 8) rfl (by first | exact .inl rfl | exact .inr rfl)) (sim_s1 (sim_dput sim_bl (sim_tvar (pv 3)) (sim_tvar (pv 8))))))) sim_snil)))) (sim_s1 (sim_ret (sim_ty bc_tuple (by rfl) fx.n_tuple boot_tuple (sim_cons (sim_tvar (pv 4)) sim_nil))))))
theorem k_on_band_rows (hK : Γ.K = K) (fx : Fx K w mg Γ) (gd : GxD K mg base Γ ("on_band_rows", none) "on_band_rows.<locals>.<genexpr>") {f_Band_places f_squares f_figure_places : Fn} (h_Band_places : KnM P w K mg base Γ k 3 "places" 1 f_Band_places) (h_squares : Kn P w K mg base Γ k "squares" 0 f_squares) (h_figure_places : Kn P w K mg base Γ k "figure_places" 1 f_figure_places) : Kn P w K mg base Γ (k + 2) "on_band_rows" 2 (fnM 11 (b_on_band_rows f_Band_places f_squares f_figure_places)) := fx.d_on_band_rows.knC sc_on_band_rows hK rfl fun _ _ _ _ _ _ S => w_on_band_rows fx gd h_Band_places h_squares h_figure_places S
def b__law_flat : MS := sSeq (sAsg (gNm 1) (scopM (eLst []))) (sSeq (sFor (mIt (eVar 0) itAny) (gNm 2) (sAsg (gNm 1) (scopM (e2 vAdd (eVar 1) (eVar 2))))) (sRet (eVar 1)))
theorem sc__law_flat : FnScope ["rows", "found", "row"] ["rows"] (defScope s__law_flat) := ⟨rfl, rfl, rfl, by decide +kernel, rfl, by decide +kernel, by decide +kernel⟩
theorem w__law_flat (fx : Fx K w mg Γ)  {f : Addr} {A : Around} {outer : List Env} {s : Shared} {H : Hp} {E : XK} (S : Sx (cxOf (L2.CX P w) P w K mg base ["rows", "found", "row"] "_law_flat" (defScope s__law_flat) f (.ref (He.cT K ("_law_flat", none)).1) A outer s H E) Γ (WK E) (k + 1)) : SimSs (cxOf (L2.CX P w) P w K mg base ["rows", "found", "row"] "_law_flat" (defScope s__law_flat) f (.ref (He.cT K ("_law_flat", none)).1) A outer s H E) Γ (WK E) (defBody s__law_flat) (b__law_flat) := by exact (sim_seq (sim_set (i := 1) (sim_scop (sim_lst sim_nil)) rfl (by first | exact .inl rfl | exact .inr rfl)) (sim_seq (sim_for (passes_of rfl) (sim_iany (sim_tvar (pv 0))) (sim_gname (i := 2) rfl (by first | exact .inl rfl | exact .inr rfl)) (sim_s1 (sim_set (i := 1) (sim_scop (sim_op oc_add (sim_tvar (pv 1)) (sim_tvar (pv 2)))) rfl (by first | exact .inl rfl | exact .inr rfl)))) (sim_s1 (sim_ret (sim_tvar (pv 1))))))
theorem k__law_flat (hK : Γ.K = K) (fx : Fx K w mg Γ)  : Kn P w K mg base Γ (k + 2) "_law_flat" 1 (fnM 3 (b__law_flat)) := fx.d__law_flat.knC sc__law_flat hK rfl fun _ _ _ _ _ _ S => w__law_flat fx S
def b_between (f_Band_places f_squares f_figure_places f_within : Fn) : MS := sSeq (sAsg (gTp 3 (gsCons (gNm 2) (gsCons (gNm 3) (gsCons (gNm 4) (gsNil))))) (eTup [scopM (eDComp true (mIt (eMeth0 3 f_Band_places (eVar 1)) itAny) (gNm 8) (tTrue) (eVar 8) (eC (.bl true)) [8]), eDNew true, eLst []])) (sSeq (sFor (mIt (eCall0 f_squares) itAny) (gTp 2 (gsCons (gNm 5) (gsCons (gNm 6) (gsNil)))) (sSeq (sAsg (gNm 7) (scopM (eComp (mIt (eBi f_figure_places [eVar 0]) itAny) (gTp 2 (gsCons (gNm 9) (gsCons (gNm 10) (gsNil)))) (tTrue) (eTup [e2 vAdd (eVar 5) (eVar 9), e2 vAdd (eVar 6) (eVar 10)]) [9, 10]))) (sIf (tV (eAny true (mIt (eVar 7) itAny) (gTp 2 (gsCons (gNm 11) (gsCons (gNm 12) (gsNil)))) (tTrue) (eAnd2 (eBi f_within [eVar 11, eVar 12]) (eAnd2 (e2 (vInY wtabs true) (eTup [eVar 11, eVar 12]) (eVar 2)) (e2 (vInY wtabs true) (eTup [eVar 11, eVar 12]) (eVar 3)))) [11, 12])) (sSeq (sExp (eAppend (eVar 4) (eTup [eVar 5, eVar 6]))) (sFor (mIt (eVar 7) itAny) (gNm 8) (sDPutC (eC (.bl true)) (eVar 3) (eVar 8)))) (sNil)))) (sRet (eBi bTuple [eVar 4])))
theorem sc_between : FnScope ["name", "band", "mine", "taken", "found", "row", "column", "places", "place", "j", "k", "a", "b"] ["name", "band"] (defScope s_between) := ⟨rfl, rfl, rfl, by decide +kernel, rfl, by decide +kernel, by decide +kernel⟩
theorem w_between (fx : Fx K w mg Γ) (gd : GxD K mg base Γ ("between", none) "between.<locals>.<genexpr>") {f_Band_places f_squares f_figure_places f_within : Fn} (h_Band_places : KnM P w K mg base Γ k 3 "places" 1 f_Band_places) (h_squares : Kn P w K mg base Γ k "squares" 0 f_squares) (h_figure_places : Kn P w K mg base Γ k "figure_places" 1 f_figure_places) (h_within : Kn P w K mg base Γ k "within" 2 f_within) {f : Addr} {A : Around} {outer : List Env} {s : Shared} {H : Hp} {E : XK} (S : Sx (cxOf (L2.CX P w) P w K mg base ["name", "band", "mine", "taken", "found", "row", "column", "places", "place", "j", "k", "a", "b"] "between" (defScope s_between) f (.ref (He.cT K ("between", none)).1) A outer s H E) Γ (WK E) (k + 1)) : SimSs (cxOf (L2.CX P w) P w K mg base ["name", "band", "mine", "taken", "found", "row", "column", "places", "place", "j", "k", "a", "b"] "between" (defScope s_between) f (.ref (He.cT K ("between", none)).1) A outer s H E) Γ (WK E) (defBody s_between) (b_between f_Band_places f_squares f_figure_places f_within) := by exact (sim_seq (sim_asg (sim_tup (sim_cons (sim_scop (sim_dcomp (t := true) (own := [("place", 8)]) (blkOk_by (by kernel_rfl)) (sim_iany (sim_meth0 h_Band_places (by omega) (sim_tvar (pv 1)))) (fun _ _ _ _ _ => by exact (sim_gname (i := 8) rfl (by first | exact .inl rfl | exact .inr rfl))) (fun _ _ _ _ _ => by exact sim_tests0) (fun _ _ _ _ _ => by exact (sim_tvar (pv 8))) (fun _ _ _ _ _ => by exact sim_bl))) (sim_cons sim_dnewT (sim_cons (sim_lst sim_nil) sim_nil)))) (sim_gtup (sim_gscons (sim_gname (i := 2) rfl (by first | exact .inl rfl | exact .inr rfl)) (sim_gscons (sim_gname (i := 3) rfl (by first | exact .inl rfl | exact .inr rfl)) (sim_gscons (sim_gname (i := 4) rfl (by first | exact .inl rfl | exact .inr rfl)) sim_gsnil))))) (sim_seq (sim_for (passes_of rfl) (sim_iany (sim_call0 h_squares (by omega))) (sim_gtup (sim_gscons (sim_gname (i := 5) rfl (by first | exact .inl rfl | exact .inr rfl)) (sim_gscons (sim_gname (i := 6) rfl (by first | exact .inl rfl | exact .inr rfl)) sim_gsnil))) (sim_seq (sim_asgZ (sim_setComp (i := 7) rfl rfl (by kernel_rfl) (own := [("j", 9), ("k", 10)]) (blkOk_by (by kernel_rfl)) (sim_iany (sim_call h_figure_places (by omega) (sim_cons (sim_tvar (pv 0)) sim_nil))) (fun _ _ _ _ _ => by exact (sim_gtup (sim_gscons (sim_gname (i := 9) rfl (by first | exact .inl rfl | exact .inr rfl)) (sim_gscons (sim_gname (i := 10) rfl (by first | exact .inl rfl | exact .inr rfl)) sim_gsnil)))) (fun _ _ _ _ _ => by exact sim_tests0) (fun _ _ _ _ _ => by exact (sim_tup (sim_cons (sim_op oc_add (sim_tvar (pv 5)) (sim_tvar (pv 9))) (sim_cons (sim_op oc_add (sim_tvar (pv 6)) (sim_tvar (pv 10))) sim_nil)))))) (sim_s1 (sim_sif (sim_tv (sim_all (k' := k) (own := [("a", 11), ("b", 12)]) gd rfl (by omega) (gxS_by (by kernel_rfl)) (sim_iany (sim_tvar (pv 7))) (fun _ _ _ _ _ _ _ S' => by exact (sim_gtup (sim_gscons (sim_gname (i := 11) rfl (by first | exact .inl rfl | exact .inr rfl)) (sim_gscons (sim_gname (i := 12) rfl (by first | exact .inl rfl | exact .inr rfl)) sim_gsnil)))) (fun _ _ _ _ _ _ _ S' => by exact sim_tests0) (fun _ _ _ _ _ _ _ S' => by exact (sim_and (sim_call h_within (by omega) (sim_cons (sim_tvar (pv 11)) (sim_cons (sim_tvar (pv 12)) sim_nil))) (sim_and (sim_cmp (oc_ninY fx.wd) (sim_tup (sim_cons (sim_tvar (pv 11)) (sim_cons (sim_tvar (pv 12)) sim_nil))) (sim_tvar (pv 2))) (sim_b1 (sim_cmp (oc_ninY fx.wd) (sim_tup (sim_cons (sim_tvar (pv 11)) (sim_cons (sim_tvar (pv 12)) sim_nil))) (sim_tvar (pv 3))))))) (by rfl) fx.n_all boot_all)) (sim_seq (sim_exp (sim_append (sim_tvar (pv 4)) (sim_tup (sim_cons (sim_tvar (pv 5)) (sim_cons (sim_tvar (pv 6)) sim_nil))))) (sim_s1 (sim_for (passes_of rfl) (sim_iany (sim_tvar (pv 7))) (sim_gname (i := 8) rfl (by first | exact .inl rfl | exact .inr rfl)) (sim_s1 (sim_dput sim_bl (sim_tvar (pv 3)) (sim_tvar (pv 8))))))) sim_snil)))) (sim_s1 (sim_ret (sim_ty bc_tuple (by rfl) fx.n_tuple boot_tuple (sim_cons (sim_tvar (pv 4)) sim_nil))))))
theorem k_between (hK : Γ.K = K) (fx : Fx K w mg Γ) (gd : GxD K mg base Γ ("between", none) "between.<locals>.<genexpr>") {f_Band_places f_squares f_figure_places f_within : Fn} (h_Band_places : KnM P w K mg base Γ k 3 "places" 1 f_Band_places) (h_squares : Kn P w K mg base Γ k "squares" 0 f_squares) (h_figure_places : Kn P w K mg base Γ k "figure_places" 1 f_figure_places) (h_within : Kn P w K mg base Γ k "within" 2 f_within) : Kn P w K mg base Γ (k + 2) "between" 2 (fnM 13 (b_between f_Band_places f_squares f_figure_places f_within)) := fx.d_between.knC sc_between hK rfl fun _ _ _ _ _ _ S => w_between fx gd h_Band_places h_squares h_figure_places h_within S
def b_figure_size (f_check_figure : Fn) : MS := sSeq (sExp (eBi f_check_figure [eVar 0])) (sRet (eTup [eBi (bOr bLen bLenD) [e2 (vIxX wtabs) (eC c_FIGURES) (eVar 0)], eBi (bOr bLen bLenD) [e2 (vIxX wtabs) (e2 (vIxX wtabs) (eC c_FIGURES) (eVar 0)) (eC (.int 0))]]))
theorem sc_figure_size : FnScope ["name"] ["name"] (defScope s_figure_size) := ⟨rfl, rfl, rfl, by decide +kernel, rfl, by decide +kernel, by decide +kernel⟩
theorem w_figure_size (fx : Fx K w mg Γ) {f_check_figure : Fn} (h_check_figure : Kn P w K mg base Γ k "check_figure" 1 f_check_figure) {f : Addr} {A : Around} {outer : List Env} {s : Shared} {H : Hp} {E : XK} (S : Sx (cxOf (L2.CX P w) P w K mg base ["name"] "figure_size" (defScope s_figure_size) f (.ref (He.cT K ("figure_size", none)).1) A outer s H E) Γ (WK E) (k + 1)) : SimSs (cxOf (L2.CX P w) P w K mg base ["name"] "figure_size" (defScope s_figure_size) f (.ref (He.cT K ("figure_size", none)).1) A outer s H E) Γ (WK E) (defBody s_figure_size) (b_figure_size f_check_figure) := by exact (sim_seq (sim_exp (sim_call h_check_figure (by omega) (sim_cons (sim_tvar (pv 0)) sim_nil))) (sim_s1 (sim_ret (sim_tup (sim_cons (sim_bi (callC_or bc_len bc_lenD) (by rfl) fx.n_len boot_len (sim_cons (sim_ixX fx.wd (sim_glob fx.g_FIGURES) (sim_tvar (pv 0))) sim_nil)) (sim_cons (sim_bi (callC_or bc_len bc_lenD) (by rfl) fx.n_len boot_len (sim_cons (sim_ixX fx.wd (sim_ixX fx.wd (sim_glob fx.g_FIGURES) (sim_tvar (pv 0))) sim_int) sim_nil)) sim_nil))))))
theorem k_figure_size (hK : Γ.K = K) (fx : Fx K w mg Γ) {f_check_figure : Fn} (h_check_figure : Kn P w K mg base Γ k "check_figure" 1 f_check_figure) : Kn P w K mg base Γ (k + 2) "figure_size" 1 (fnM 1 (b_figure_size f_check_figure)) := fx.d_figure_size.knC sc_figure_size hK rfl fun _ _ _ _ _ _ S => w_figure_size fx h_check_figure S
def b_sown (f_figure_size f_figure_places f_within : Fn) : MS := sSeq (sAsg (gTp 2 (gsCons (gNm 2) (gsCons (gNm 3) (gsNil)))) (eBi f_figure_size [eVar 0])) (sSeq (sIf (tOr2 (tV (e2 vLt (eVar 1) (eC (.int 1)))) (tV (e2 vGt (eVar 1) (eC (.int 6))))) (sRaise 2) (sNil)) (sSeq (sAsg (gNm 4) (eDNew true)) (sSeq (sFor (mIt (evA [eC (.int 0), eC c_HIGH, e2 vAdd (eVar 2) (eVar 1)]) itEnR) (gTp 2 (gsCons (gNm 5) (gsCons (gNm 6) (gsNil)))) (sSeq (sAsg (gNm 7) (eIf (tV (e2 (vEq false) (e2 vMod (eVar 5) (eC (.int 2))) (eC (.int 1)))) (eNeg (e2 vDiv (e2 vAdd (eVar 3) (eVar 1)) (eC (.int 2)))) (eC (.int 0)))) (sFor (mIt (evA [eVar 7, eC c_WIDE, e2 vAdd (eVar 3) (eVar 1)]) itR3) (gNm 8) (sFor (mIt (eBi f_figure_places [eVar 0]) itAny) (gTp 2 (gsCons (gNm 9) (gsCons (gNm 10) (gsNil)))) (sIf (tV (eBi f_within [e2 vAdd (eVar 6) (eVar 9), e2 vAdd (eVar 8) (eVar 10)])) (sDPutC (eC (.bl true)) (eVar 4) (eTup [e2 vAdd (eVar 6) (eVar 9), e2 vAdd (eVar 8) (eVar 10)])) (sNil)))))) (sRet (eBi bTuple [scopM (eBi bSorted [eVar 4])])))))
theorem sc_sown : FnScope ["name", "apart", "high", "wide", "found", "n", "j", "first", "k", "a", "b"] ["name", "apart"] (defScope s_sown) := ⟨rfl, rfl, rfl, by decide +kernel, rfl, by decide +kernel, by decide +kernel⟩
theorem w_sown (fx : Fx K w mg Γ) {f_figure_size f_figure_places f_within : Fn} (h_figure_size : Kn P w K mg base Γ k "figure_size" 1 f_figure_size) (h_figure_places : Kn P w K mg base Γ k "figure_places" 1 f_figure_places) (h_within : Kn P w K mg base Γ k "within" 2 f_within) {f : Addr} {A : Around} {outer : List Env} {s : Shared} {H : Hp} {E : XK} (S : Sx (cxOf (L2.CX P w) P w K mg base ["name", "apart", "high", "wide", "found", "n", "j", "first", "k", "a", "b"] "sown" (defScope s_sown) f (.ref (He.cT K ("sown", none)).1) A outer s H E) Γ (WK E) (k + 1)) : SimSs (cxOf (L2.CX P w) P w K mg base ["name", "apart", "high", "wide", "found", "n", "j", "first", "k", "a", "b"] "sown" (defScope s_sown) f (.ref (He.cT K ("sown", none)).1) A outer s H E) Γ (WK E) (defBody s_sown) (b_sown f_figure_size f_figure_places f_within) := by exact (sim_seq (sim_asg (sim_call h_figure_size (by omega) (sim_cons (sim_tvar (pv 0)) sim_nil)) (sim_gtup (sim_gscons (sim_gname (i := 2) rfl (by first | exact .inl rfl | exact .inr rfl)) (sim_gscons (sim_gname (i := 3) rfl (by first | exact .inl rfl | exact .inr rfl)) sim_gsnil)))) (sim_seq (sim_sif (PW.pt (sw_or (sim_tcmp oc_lt (sim_tvar (pv 1)) sim_int) (sw_or1 (sim_tcmp oc_gt (sim_tvar (pv 1)) sim_int)))) (sim_s1 (sim_raise fx.x_BadShape)) sim_snil) (sim_seq (sim_set (i := 4) sim_dnewT rfl (by first | exact .inl rfl | exact .inr rfl)) (sim_seq (sim_for (passes_of rfl) (sim_ienR (by rfl) fx.n_enumerate (by rfl) fx.n_range (sim_cons sim_int (sim_cons (sim_glob fx.g_HIGH) (sim_cons (sim_op oc_add (sim_tvar (pv 2)) (sim_tvar (pv 1))) sim_nil)))) (sim_gtup (sim_gscons (sim_gname (i := 5) rfl (by first | exact .inl rfl | exact .inr rfl)) (sim_gscons (sim_gname (i := 6) rfl (by first | exact .inl rfl | exact .inr rfl)) sim_gsnil))) (sim_seq (sim_set (i := 7) (sim_if (sim_tcmp oc_eq (sim_op oc_mod (sim_tvar (pv 5)) sim_int) sim_int) (sim_neg (sim_op oc_div (sim_op oc_add (sim_tvar (pv 3)) (sim_tvar (pv 1))) sim_int)) sim_int) rfl (by first | exact .inl rfl | exact .inr rfl)) (sim_s1 (sim_for (passes_of rfl) (sim_r3 (by rfl) fx.n_range (sim_cons (sim_tvar (pv 7)) (sim_cons (sim_glob fx.g_WIDE) (sim_cons (sim_op oc_add (sim_tvar (pv 3)) (sim_tvar (pv 1))) sim_nil)))) (sim_gname (i := 8) rfl (by first | exact .inl rfl | exact .inr rfl)) (sim_s1 (sim_for (passes_of rfl) (sim_iany (sim_call h_figure_places (by omega) (sim_cons (sim_tvar (pv 0)) sim_nil))) (sim_gtup (sim_gscons (sim_gname (i := 9) rfl (by first | exact .inl rfl | exact .inr rfl)) (sim_gscons (sim_gname (i := 10) rfl (by first | exact .inl rfl | exact .inr rfl)) sim_gsnil))) (sim_s1 (sim_sif (sim_tv (sim_call h_within (by omega) (sim_cons (sim_op oc_add (sim_tvar (pv 6)) (sim_tvar (pv 9))) (sim_cons (sim_op oc_add (sim_tvar (pv 8)) (sim_tvar (pv 10))) sim_nil)))) (sim_s1 (sim_dput sim_bl (sim_tvar (pv 4)) (sim_tup (sim_cons (sim_op oc_add (sim_tvar (pv 6)) (sim_tvar (pv 9))) (sim_cons (sim_op oc_add (sim_tvar (pv 8)) (sim_tvar (pv 10))) sim_nil))))) sim_snil)))))))) (sim_s1 (sim_ret (sim_ty bc_tuple (by rfl) fx.n_tuple boot_tuple (sim_cons (sim_scop (sim_bi bc_sorted (by rfl) fx.n_sorted PyProof.Rows.boot_sorted (sim_cons (sim_tvar (pv 4)) sim_nil))) sim_nil))))))))
theorem k_sown (hK : Γ.K = K) (fx : Fx K w mg Γ) {f_figure_size f_figure_places f_within : Fn} (h_figure_size : Kn P w K mg base Γ k "figure_size" 1 f_figure_size) (h_figure_places : Kn P w K mg base Γ k "figure_places" 1 f_figure_places) (h_within : Kn P w K mg base Γ k "within" 2 f_within) : Kn P w K mg base Γ (k + 2) "sown" 2 (fnM 11 (b_sown f_figure_size f_figure_places f_within)) := fx.d_sown.knC sc_sown hK rfl fun _ _ _ _ _ _ S => w_sown fx h_figure_size h_figure_places h_within S
def b_lawbody (f__law_roll f_Band___init__ f_figure_places f_Band_places f_on_band_rows f__law_flat f_between f_within f_sown : Fn) : MS := sSeq (sAsg (gNm 2) (e2 (vIxX wtabs) (scopM (eLst [eC (.str [114, 111, 117, 110, 100, 101, 108]), eC (.str [98, 105, 108, 108, 101, 116]), eC (.str [115, 116, 97, 114]), eC (.str [112, 111, 105, 110, 116])])) (eBi f__law_roll [eVar 1, eC (.int 4)]))) (sSeq (sAsg (gTp 2 (gsCons (gNm 3) (gsCons (gNm 4) (gsNil)))) (eTup [eMakeZ 3 f_Band___init__ [e2 (vIxX wtabs) (scopM (eLst [eC (.str [112, 97, 108, 101]), eC (.str [102, 101, 115, 115]), eC (.str [99, 104, 101, 118, 114, 111, 110]), eC (.str [99, 104, 105, 101, 102])])) (eBi f__law_roll [eVar 1, eC (.int 4)]), eC (.str [111, 114]), e2 vAdd (eC (.int 2)) (eBi f__law_roll [eVar 1, eC (.int 2)])], eBi f_figure_places [eVar 2]])) (sSeq (sAsg (gNm 5) (scopM (eBi (bDict true) [scopM (eComp (mIt (eMeth0 3 f_Band_places (eVar 3)) itAny) (gNm 9) (tTrue) (eTup [eVar 9, eC (.int 1)]) [9])]))) (sSeq (sAsg (gNm 6) (eBi f__law_flat [scopM (eComp (mIt (eBi f_on_band_rows [eVar 2, eVar 3]) itAny) (gTp 2 (gsCons (gNm 10) (gsCons (gNm 11) (gsNil)))) (tTrue) (scopM (eComp (mIt (eVar 4) itAny) (gTp 2 (gsCons (gNm 12) (gsCons (gNm 13) (gsNil)))) (tTrue) (eTup [e2 vAdd (eVar 10) (eVar 12), e2 vAdd (eVar 11) (eVar 13)]) [12, 13])) [10, 11])])) (sSeq (sAsg (gNm 7) (eBi f__law_flat [scopM (eComp (mIt (eBi f_between [eVar 2, eVar 3]) itAny) (gTp 2 (gsCons (gNm 10) (gsCons (gNm 11) (gsNil)))) (tTrue) (scopM (eComp (mIt (eVar 4) itAny) (gTp 2 (gsCons (gNm 12) (gsCons (gNm 13) (gsNil)))) (tTrue) (eTup [e2 vAdd (eVar 10) (eVar 12), e2 vAdd (eVar 11) (eVar 13)]) [12, 13])) [10, 11])])) (sSeq (sIf (tV (e2 (vEq true) (scopM (eComp (mIt (eVar 6) itAny) (gNm 9) (tV (e2 (vInY wtabs true) (eVar 9) (eVar 5))) (eVar 9) [9])) (scopM (eLst [])))) (sRet (eC (.bl false))) (sNil)) (sSeq (sIf (tV (e2 (vEq true) (scopM (eComp (mIt (eVar 7) itAny) (gNm 9) (tOr2 (tV (e2 (vInY wtabs false) (eVar 9) (eVar 5))) (tNot1 (tV (eBi f_within [e2 (vIxX wtabs) (eVar 9) (eC (.int 0)), e2 (vIxX wtabs) (eVar 9) (eC (.int 1))])))) (eVar 9) [9])) (scopM (eLst [])))) (sRet (eC (.bl false))) (sNil)) (sSeq (sIf (tV (e2 (vEq true) (eBi (bOr bLen bLenD) [scopM (eBi (bDict true) [scopM (eComp (mIt (eVar 6) itAny) (gNm 9) (tTrue) (eTup [eVar 9, eC (.int 1)]) [9])])]) (eBi (bOr bLen bLenD) [eVar 6]))) (sRet (eC (.bl false))) (sNil)) (sSeq (sIf (tV (e2 (vEq true) (eBi (bOr bLen bLenD) [scopM (eBi (bDict true) [scopM (eComp (mIt (eVar 7) itAny) (gNm 9) (tTrue) (eTup [eVar 9, eC (.int 1)]) [9])])]) (eBi (bOr bLen bLenD) [eVar 7]))) (sRet (eC (.bl false))) (sNil)) (sSeq (sAsg (gNm 8) (eBi f_sown [eVar 2, e2 vAdd (eC (.int 1)) (eBi f__law_roll [eVar 1, eC (.int 4)])])) (sSeq (sIf (tV (e2 (vEq true) (scopM (eComp (mIt (eVar 8) itAny) (gNm 9) (tNot1 (tV (eBi f_within [e2 (vIxX wtabs) (eVar 9) (eC (.int 0)), e2 (vIxX wtabs) (eVar 9) (eC (.int 1))]))) (eVar 9) [9])) (scopM (eLst [])))) (sRet (eC (.bl false))) (sNil)) (sIf (tV (e2 (vEq true) (scopM (eComp (mIt (eVar 4) itAny) (gNm 9) (tV (e2 (vInY wtabs true) (eVar 9) (eVar 8))) (eVar 9) [9])) (scopM (eLst [])))) (sRet (eC (.bl false))) (sNil))))))))))))
def b_law (f__law_rounds f__law_roll f_Band___init__ f_figure_places f_Band_places f_on_band_rows f__law_flat f_between f_within f_sown : Fn) : MS := sSeq (sFor (mIt (eBi f__law_rounds [eVar 0, eC (.int 1)]) itAny) (gNm 1) (sHide 1 (b_lawbody f__law_roll f_Band___init__ f_figure_places f_Band_places f_on_band_rows f__law_flat f_between f_within f_sown))) (sRet (eC (.bl true)))
theorem sc_law : FnScope ["script", "dice", "name", "band", "shape", "mine", "lies", "stands", "seeds", "place", "row", "column", "j", "k"] ["script"] (defScope s_law) := ⟨rfl, rfl, rfl, by decide +kernel, rfl, by decide +kernel, by decide +kernel⟩
theorem w_law (fx : Fx K w mg Γ) {f__law_rounds f__law_roll f_Band___init__ f_figure_places f_Band_places f_on_band_rows f__law_flat f_between f_within f_sown : Fn} (h__law_rounds : Kn P w K mg base Γ k "_law_rounds" 2 f__law_rounds) (h__law_roll : Kn P w K mg base Γ k "_law_roll" 2 f__law_roll) (h_Band : KnC P w K mg base Γ k "Band" 3 4 f_Band___init__) (h_figure_places : Kn P w K mg base Γ k "figure_places" 1 f_figure_places) (h_Band_places : KnM P w K mg base Γ k 3 "places" 1 f_Band_places) (h_on_band_rows : Kn P w K mg base Γ k "on_band_rows" 2 f_on_band_rows) (h__law_flat : Kn P w K mg base Γ k "_law_flat" 1 f__law_flat) (h_between : Kn P w K mg base Γ k "between" 2 f_between) (h_within : Kn P w K mg base Γ k "within" 2 f_within) (h_sown : Kn P w K mg base Γ k "sown" 2 f_sown) {f : Addr} {A : Around} {outer : List Env} {s : Shared} {H : Hp} {E : XK} (S : Sx (cxOf (L2.CX P w) P w K mg base ["script", "dice", "name", "band", "shape", "mine", "lies", "stands", "seeds", "place", "row", "column", "j", "k"] "law" (defScope s_law) f (.ref (He.cT K ("law", none)).1) A outer s H E) Γ (WK E) (k + 1)) : SimSs (cxOf (L2.CX P w) P w K mg base ["script", "dice", "name", "band", "shape", "mine", "lies", "stands", "seeds", "place", "row", "column", "j", "k"] "law" (defScope s_law) f (.ref (He.cT K ("law", none)).1) A outer s H E) Γ (WK E) (defBody s_law) (b_law f__law_rounds f__law_roll f_Band___init__ f_figure_places f_Band_places f_on_band_rows f__law_flat f_between f_within f_sown) := by exact (sim_seq (sim_for (passes_of rfl) (sim_iany (sim_call h__law_rounds (by omega) (sim_cons (sim_tvar (pv 0)) (sim_cons sim_int sim_nil)))) (sim_gname (i := 1) rfl (by first | exact .inl rfl | exact .inr rfl)) (sim_hide (sim_seq (sim_set (i := 2) (sim_ixX fx.wd (sim_scop (sim_lst (sim_cons (sim_str (s := [114, 111, 117, 110, 100, 101, 108])) (sim_cons (sim_str (s := [98, 105, 108, 108, 101, 116])) (sim_cons (sim_str (s := [115, 116, 97, 114])) (sim_cons (sim_str (s := [112, 111, 105, 110, 116])) sim_nil)))))) (sim_call h__law_roll (by omega) (sim_cons (sim_tvar (pv 1)) (sim_cons sim_int sim_nil)))) rfl (by first | exact .inl rfl | exact .inr rfl)) (sim_seq (sim_asg (sim_tup (sim_cons (sim_makeZ h_Band (by omega) (sim_cons (sim_ixX fx.wd (sim_scop (sim_lst (sim_cons (sim_str (s := [112, 97, 108, 101])) (sim_cons (sim_str (s := [102, 101, 115, 115])) (sim_cons (sim_str (s := [99, 104, 101, 118, 114, 111, 110])) (sim_cons (sim_str (s := [99, 104, 105, 101, 102])) sim_nil)))))) (sim_call h__law_roll (by omega) (sim_cons (sim_tvar (pv 1)) (sim_cons sim_int sim_nil)))) (sim_cons (sim_str (s := [111, 114])) (sim_cons (sim_op oc_add sim_int (sim_call h__law_roll (by omega) (sim_cons (sim_tvar (pv 1)) (sim_cons sim_int sim_nil)))) sim_nil)))) (sim_cons (sim_call h_figure_places (by omega) (sim_cons (sim_tvar (pv 2)) sim_nil)) sim_nil))) (sim_gtup (sim_gscons (sim_gname (i := 3) rfl (by first | exact .inl rfl | exact .inr rfl)) (sim_gscons (sim_gname (i := 4) rfl (by first | exact .inl rfl | exact .inr rfl)) sim_gsnil)))) (sim_seq (sim_set (i := 5) (sim_scop (sim_ty (bc_dict (t := true)) (by rfl) fx.n_dict PyProof.Rows.boot_dict (sim_cons (sim_scop (sim_comp (own := [("place", 9)]) (blkOk_by (by kernel_rfl)) (sim_iany (sim_meth0 h_Band_places (by omega) (sim_tvar (pv 3)))) (fun _ _ _ _ _ => by exact (sim_gname (i := 9) rfl (by first | exact .inl rfl | exact .inr rfl))) (fun _ _ _ _ _ => by exact sim_tests0) (fun _ _ _ _ _ => by exact (sim_tup (sim_cons (sim_tvar (pv 9)) (sim_cons sim_int sim_nil)))))) sim_nil))) rfl (by first | exact .inl rfl | exact .inr rfl)) (sim_seq (sim_set (i := 6) (sim_call h__law_flat (by omega) (sim_cons (sim_scop (sim_comp (own := [("row", 10), ("column", 11)]) (blkOk_by (by kernel_rfl)) (sim_iany (sim_call h_on_band_rows (by omega) (sim_cons (sim_tvar (pv 2)) (sim_cons (sim_tvar (pv 3)) sim_nil)))) (fun _ _ _ _ _ => by exact (sim_gtup (sim_gscons (sim_gname (i := 10) rfl (by first | exact .inl rfl | exact .inr rfl)) (sim_gscons (sim_gname (i := 11) rfl (by first | exact .inl rfl | exact .inr rfl)) sim_gsnil)))) (fun _ _ _ _ _ => by exact sim_tests0) (fun _ _ _ _ _ => by exact (sim_scop (sim_comp (own := [("j", 12), ("k", 13)]) (blkOk_by (by kernel_rfl)) (sim_iany (sim_tvar (pv 4))) (fun _ _ _ _ _ => by exact (sim_gtup (sim_gscons (sim_gname (i := 12) rfl (by first | exact .inl rfl | exact .inr rfl)) (sim_gscons (sim_gname (i := 13) rfl (by first | exact .inl rfl | exact .inr rfl)) sim_gsnil)))) (fun _ _ _ _ _ => by exact sim_tests0) (fun _ _ _ _ _ => by exact (sim_tup (sim_cons (sim_op oc_add (sim_tvar (pv 10)) (sim_tvar (pv 12))) (sim_cons (sim_op oc_add (sim_tvar (pv 11)) (sim_tvar (pv 13))) sim_nil))))))))) sim_nil)) rfl (by first | exact .inl rfl | exact .inr rfl)) (sim_seq (sim_set (i := 7) (sim_call h__law_flat (by omega) (sim_cons (sim_scop (sim_comp (own := [("row", 10), ("column", 11)]) (blkOk_by (by kernel_rfl)) (sim_iany (sim_call h_between (by omega) (sim_cons (sim_tvar (pv 2)) (sim_cons (sim_tvar (pv 3)) sim_nil)))) (fun _ _ _ _ _ => by exact (sim_gtup (sim_gscons (sim_gname (i := 10) rfl (by first | exact .inl rfl | exact .inr rfl)) (sim_gscons (sim_gname (i := 11) rfl (by first | exact .inl rfl | exact .inr rfl)) sim_gsnil)))) (fun _ _ _ _ _ => by exact sim_tests0) (fun _ _ _ _ _ => by exact (sim_scop (sim_comp (own := [("j", 12), ("k", 13)]) (blkOk_by (by kernel_rfl)) (sim_iany (sim_tvar (pv 4))) (fun _ _ _ _ _ => by exact (sim_gtup (sim_gscons (sim_gname (i := 12) rfl (by first | exact .inl rfl | exact .inr rfl)) (sim_gscons (sim_gname (i := 13) rfl (by first | exact .inl rfl | exact .inr rfl)) sim_gsnil)))) (fun _ _ _ _ _ => by exact sim_tests0) (fun _ _ _ _ _ => by exact (sim_tup (sim_cons (sim_op oc_add (sim_tvar (pv 10)) (sim_tvar (pv 12))) (sim_cons (sim_op oc_add (sim_tvar (pv 11)) (sim_tvar (pv 13))) sim_nil))))))))) sim_nil)) rfl (by first | exact .inl rfl | exact .inr rfl)) (sim_seq (sim_sif (sim_tcmp oc_ne (sim_scop (sim_comp (own := [("place", 9)]) (blkOk_by (by kernel_rfl)) (sim_iany (sim_tvar (pv 6))) (fun _ _ _ _ _ => by exact (sim_gname (i := 9) rfl (by first | exact .inl rfl | exact .inr rfl))) (fun _ _ _ _ _ => by exact (sim_tests1 (sim_tcmp (oc_ninY fx.wd) (sim_tvar (pv 9)) (sim_tvar (pv 5))))) (fun _ _ _ _ _ => by exact (sim_tvar (pv 9))))) (sim_scop (sim_lst sim_nil))) (sim_s1 (sim_ret sim_bl)) sim_snil) (sim_seq (sim_sif (sim_tcmp oc_ne (sim_scop (sim_comp (own := [("place", 9)]) (blkOk_by (by kernel_rfl)) (sim_iany (sim_tvar (pv 7))) (fun _ _ _ _ _ => by exact (sim_gname (i := 9) rfl (by first | exact .inl rfl | exact .inr rfl))) (fun _ _ _ _ _ => by exact (sim_tests1 (PW.pt (sw_or (sim_tcmp (oc_inY fx.wd) (sim_tvar (pv 9)) (sim_tvar (pv 5))) (sw_or1 (sim_tnot (sim_tv (sim_call h_within (by omega) (sim_cons (sim_ixX fx.wd (sim_tvar (pv 9)) sim_int) (sim_cons (sim_ixX fx.wd (sim_tvar (pv 9)) sim_int) sim_nil)))))))))) (fun _ _ _ _ _ => by exact (sim_tvar (pv 9))))) (sim_scop (sim_lst sim_nil))) (sim_s1 (sim_ret sim_bl)) sim_snil) (sim_seq (sim_sif (sim_tcmp oc_ne (sim_bi (callC_or bc_len bc_lenD) (by rfl) fx.n_len boot_len (sim_cons (sim_scop (sim_ty (bc_dict (t := true)) (by rfl) fx.n_dict PyProof.Rows.boot_dict (sim_cons (sim_scop (sim_comp (own := [("place", 9)]) (blkOk_by (by kernel_rfl)) (sim_iany (sim_tvar (pv 6))) (fun _ _ _ _ _ => by exact (sim_gname (i := 9) rfl (by first | exact .inl rfl | exact .inr rfl))) (fun _ _ _ _ _ => by exact sim_tests0) (fun _ _ _ _ _ => by exact (sim_tup (sim_cons (sim_tvar (pv 9)) (sim_cons sim_int sim_nil)))))) sim_nil))) sim_nil)) (sim_bi (callC_or bc_len bc_lenD) (by rfl) fx.n_len boot_len (sim_cons (sim_tvar (pv 6)) sim_nil))) (sim_s1 (sim_ret sim_bl)) sim_snil) (sim_seq (sim_sif (sim_tcmp oc_ne (sim_bi (callC_or bc_len bc_lenD) (by rfl) fx.n_len boot_len (sim_cons (sim_scop (sim_ty (bc_dict (t := true)) (by rfl) fx.n_dict PyProof.Rows.boot_dict (sim_cons (sim_scop (sim_comp (own := [("place", 9)]) (blkOk_by (by kernel_rfl)) (sim_iany (sim_tvar (pv 7))) (fun _ _ _ _ _ => by exact (sim_gname (i := 9) rfl (by first | exact .inl rfl | exact .inr rfl))) (fun _ _ _ _ _ => by exact sim_tests0) (fun _ _ _ _ _ => by exact (sim_tup (sim_cons (sim_tvar (pv 9)) (sim_cons sim_int sim_nil)))))) sim_nil))) sim_nil)) (sim_bi (callC_or bc_len bc_lenD) (by rfl) fx.n_len boot_len (sim_cons (sim_tvar (pv 7)) sim_nil))) (sim_s1 (sim_ret sim_bl)) sim_snil) (sim_seq (sim_set (i := 8) (sim_call h_sown (by omega) (sim_cons (sim_tvar (pv 2)) (sim_cons (sim_op oc_add sim_int (sim_call h__law_roll (by omega) (sim_cons (sim_tvar (pv 1)) (sim_cons sim_int sim_nil)))) sim_nil))) rfl (by first | exact .inl rfl | exact .inr rfl)) (sim_seq (sim_sif (sim_tcmp oc_ne (sim_scop (sim_comp (own := [("place", 9)]) (blkOk_by (by kernel_rfl)) (sim_iany (sim_tvar (pv 8))) (fun _ _ _ _ _ => by exact (sim_gname (i := 9) rfl (by first | exact .inl rfl | exact .inr rfl))) (fun _ _ _ _ _ => by exact (sim_tests1 (sim_tnot (sim_tv (sim_call h_within (by omega) (sim_cons (sim_ixX fx.wd (sim_tvar (pv 9)) sim_int) (sim_cons (sim_ixX fx.wd (sim_tvar (pv 9)) sim_int) sim_nil))))))) (fun _ _ _ _ _ => by exact (sim_tvar (pv 9))))) (sim_scop (sim_lst sim_nil))) (sim_s1 (sim_ret sim_bl)) sim_snil) (sim_s1 (sim_sif (sim_tcmp oc_ne (sim_scop (sim_comp (own := [("place", 9)]) (blkOk_by (by kernel_rfl)) (sim_iany (sim_tvar (pv 4))) (fun _ _ _ _ _ => by exact (sim_gname (i := 9) rfl (by first | exact .inl rfl | exact .inr rfl))) (fun _ _ _ _ _ => by exact (sim_tests1 (sim_tcmp (oc_ninY fx.wd) (sim_tvar (pv 9)) (sim_tvar (pv 8))))) (fun _ _ _ _ _ => by exact (sim_tvar (pv 9))))) (sim_scop (sim_lst sim_nil))) (sim_s1 (sim_ret sim_bl)) sim_snil))))))))))))))) (sim_s1 (sim_ret sim_bl)))
theorem k_law (hK : Γ.K = K) (fx : Fx K w mg Γ) {f__law_rounds f__law_roll f_Band___init__ f_figure_places f_Band_places f_on_band_rows f__law_flat f_between f_within f_sown : Fn} (h__law_rounds : Kn P w K mg base Γ k "_law_rounds" 2 f__law_rounds) (h__law_roll : Kn P w K mg base Γ k "_law_roll" 2 f__law_roll) (h_Band : KnC P w K mg base Γ k "Band" 3 4 f_Band___init__) (h_figure_places : Kn P w K mg base Γ k "figure_places" 1 f_figure_places) (h_Band_places : KnM P w K mg base Γ k 3 "places" 1 f_Band_places) (h_on_band_rows : Kn P w K mg base Γ k "on_band_rows" 2 f_on_band_rows) (h__law_flat : Kn P w K mg base Γ k "_law_flat" 1 f__law_flat) (h_between : Kn P w K mg base Γ k "between" 2 f_between) (h_within : Kn P w K mg base Γ k "within" 2 f_within) (h_sown : Kn P w K mg base Γ k "sown" 2 f_sown) : Kn P w K mg base Γ (k + 2) "law" 1 (fnM 14 (b_law f__law_rounds f__law_roll f_Band___init__ f_figure_places f_Band_places f_on_band_rows f__law_flat f_between f_within f_sown)) := fx.d_law.knC sc_law hK rfl fun _ _ _ _ _ _ S => w_law fx h__law_rounds h__law_roll h_Band h_figure_places h_Band_places h_on_band_rows h__law_flat h_between h_within h_sown S
theorem o_law (hK : Γ.K = K) (fx : Fx K w mg Γ) {f__law_rounds f__law_roll f_Band___init__ f_figure_places f_Band_places f_on_band_rows f__law_flat f_between f_within f_sown : Fn} (h__law_rounds : Kn P w K mg base Γ k "_law_rounds" 2 f__law_rounds) (h__law_roll : Kn P w K mg base Γ k "_law_roll" 2 f__law_roll) (h_Band : KnC P w K mg base Γ k "Band" 3 4 f_Band___init__) (h_figure_places : Kn P w K mg base Γ k "figure_places" 1 f_figure_places) (h_Band_places : KnM P w K mg base Γ k 3 "places" 1 f_Band_places) (h_on_band_rows : Kn P w K mg base Γ k "on_band_rows" 2 f_on_band_rows) (h__law_flat : Kn P w K mg base Γ k "_law_flat" 1 f__law_flat) (h_between : Kn P w K mg base Γ k "between" 2 f_between) (h_within : Kn P w K mg base Γ k "within" 2 f_within) (h_sown : Kn P w K mg base Γ k "sown" 2 f_sown) {f : Addr} {fd : FuncData} (F : FunD K "law" "law" (defArgs s_law) (defBody s_law) (defScope s_law) [] [] f fd) (hm : mg "law" = some (.ref f)) : FnOk P w K mg base (L2.CX P w) (k + 2) f fd ["script"] (spF Γ 1 (fnM 14 (b_law f__law_rounds f__law_roll f_Band___init__ f_figure_places f_Band_places f_on_band_rows f__law_flat f_between f_within f_sown))) := fn_okC F (fx.d_law.cd f fd F hm) sc_law hK rfl fun _ _ _ _ _ S => w_law fx h__law_rounds h__law_roll h_Band h_figure_places h_Band_places h_on_band_rows h__law_flat h_between h_within h_sown S
end
def F__law_dice : Fn := gDice
def F__law_roll : Fn := gRoll
def F__law_rounds : Fn := fnM 4 (mRounds gDice)
def F_check_colour : Fn := loc (fnM 1 b_check_colour)
def n_check_colour (a_name : (List Nat)) : An Unit := cond (ngB true (nlook a_name t_LETTERS).isSome) (.exc x_BadColour []) (.ok ())
theorem t_check_colour (a_name : (List Nat)) (hp : Hc) : Gi (n_check_colour a_name) (Is eN) hp (F_check_colour [CV.str a_name] hp) := fn_loc (n := 1) (args := [CV.str a_name]) (l_cons (Fz.lim (e := CV.str) _) rfl) (show Ss [some (CV.str a_name)] [] b_check_colour (n_check_colour a_name) (postF eN) from ((s_end (s_ifP (n_tV (n_inW (n_var (i := 0) (enc := CV.str) (a := a_name)) t_LETTERS)) s_raise (s_nil s_noneF))) : Ss [some (CV.str a_name)] [] b_check_colour _ (postF eN)).eqN (by first | rfl | (unfold n_check_colour; simp only [An.ok_bind, An.ok_bD]; done) | (unfold n_check_colour; simp only [An.ok_bind, An.ok_bD]; rfl))) hp
def F_within : Fn := loc (fnM 2 b_within)
def n_within (a_row : Int) (a_column : Int) : An Bool := (cond (decide ((0 : Int) ≤ a_row) && decide (a_row < 14)) (((An.opt (atI d_SPANS a_row)).bind fun v1 => An.ok v1.1).bind fun v3 => cond (decide (v3 ≤ a_column)) ((((An.opt (atI d_SPANS a_row)).bind fun v2 => An.ok v2.2).bind fun v4 => An.ok (decide (a_column < v4)))) (.ok false)) (.ok false))
theorem t_within (a_row : Int) (a_column : Int) (hp : Hc) : Gi (n_within a_row a_column) (Is CV.bl) hp (F_within [CV.int a_row, CV.int a_column] hp) := fn_loc (n := 2) (args := [CV.int a_row, CV.int a_column]) (l_cons (Fz.lim (e := CV.int) _) (l_cons (Fz.lim (e := CV.int) _) rfl)) (show Ss [some (CV.int a_row), some (CV.int a_column)] [] b_within (n_within a_row a_column) (postF CV.bl) from ((s_end (s_retF (n_and (n_chainP (op := (fun (x y : Int) => decide (x ≤ y))) (op' := (fun (x y : Int) => decide (x < y))) o_le o_lt (n_c (enc := CV.int) (a := 0)) (n_var (i := 0) (enc := CV.int) (a := a_row)) (n_c (v := c_HIGH) (enc := CV.int) (a := 14))) (n_chain o_le o_lt (n_ixC (enc' := CV.int) (g := fun (a : (Int × Int)) => a.1) (n_ixS (x_sq (x_ws (n_c (v := c_SPANS) (enc := (eWs (eW2 CV.int CV.int))) (a := d_SPANS)))) (n_var (i := 0) (enc := CV.int) (a := a_row)))) (n_var (i := 1) (enc := CV.int) (a := a_column)) (n_ixC (enc' := CV.int) (g := fun (a : (Int × Int)) => a.2) (n_ixS (x_sq (x_ws (n_c (v := c_SPANS) (enc := (eWs (eW2 CV.int CV.int))) (a := d_SPANS)))) (n_var (i := 0) (enc := CV.int) (a := a_row)))))))) : Ss [some (CV.int a_row), some (CV.int a_column)] [] b_within _ (postF CV.bl)).eqN (by first | rfl | (unfold n_within; simp only [An.ok_bind, An.ok_bD]; done) | (unfold n_within; simp only [An.ok_bind, An.ok_bD]; rfl))) hp
def F_is_border : Fn := loc (fnM 6 (b_is_border F_within))
def n_is_border (a_row : Int) (a_column : Int) (a_width : Int) : An Bool := ((grd (okR (1 : Int) && okR (a_width + (1 : Int))) (.ok (rngL (1 : Int) (a_width + (1 : Int))))).bind fun v7 => (forL (fun (s1 : Unit) (x2 : Int) => (((forL (fun (s3 : Unit) (x4 : (Int × Int)) => ((((n_within x4.1 x4.2).bind fun v5 => An.ok (!v5)).bind fun v6 => cond v6 (.ok (.rt true)) (.ok (.nx ()))) : An (Lp Unit Bool))) () ([((a_row + x2), a_column), ((a_row - x2), a_column), (a_row, (a_column + x2)), (a_row, (a_column - x2))] : List (Int × Int))).bind (lpK (fun (s3 : Unit) => .ok (.nx ())) Lp.rt)) : An (Lp Unit Bool))) () v7).bind (lpK (fun (s1 : Unit) => .ok false) id))
theorem t_is_border (a_row : Int) (a_column : Int) (a_width : Int) (hp : Hc) : Gi (n_is_border a_row a_column a_width) (Is CV.bl) hp (F_is_border [CV.int a_row, CV.int a_column, CV.int a_width] hp) := fn_loc (n := 6) (args := [CV.int a_row, CV.int a_column, CV.int a_width]) (l_cons (Fz.lim (e := CV.int) _) (l_cons (Fz.lim (e := CV.int) _) (l_cons (Fz.lim (e := CV.int) _) rfl))) (show Ss [some (CV.int a_row), some (CV.int a_column), some (CV.int a_width), none, none, none] [] (b_is_border F_within) (n_is_border a_row a_column a_width) (postF CV.bl) from ((s_forLK (st := (fun (s1 : Unit) => ([some (CV.int a_row), some (CV.int a_column), some (CV.int a_width), none, none, none], []))) (s0 := ()) (A := (ansF CV.bl)) (kr := id) (i_r2 (n_c (enc := CV.int) (a := 1)) (n_e2P o_addI (n_var (i := 2) (enc := CV.int) (a := a_width)) (n_c (enc := CV.int) (a := 1)))) ⟨rfl, ⟨rfl, ⟨rfl, trivial⟩⟩⟩ rfl (fun (s1 : Unit) (x2 : Int) => tg_nm) (fun (s1 : Unit) (x2 : Int) => (s_end (s_forLK (st := (fun (s3 : Unit) => ([some (CV.int a_row), some (CV.int a_column), some (CV.int a_width), some (CV.int x2), none, none], []))) (s0 := ()) (A := (ansF CV.bl)) (kr := Lp.rt) (i_seq (x_ts (n_tupS (al_cons (n_tup2 (n_e2P o_addI (n_var (i := 0) (enc := CV.int) (a := a_row)) (n_var (i := 3) (enc := CV.int) (a := x2))) (n_var (i := 1) (enc := CV.int) (a := a_column))) (al_cons (n_tup2 (n_e2P o_sub (n_var (i := 0) (enc := CV.int) (a := a_row)) (n_var (i := 3) (enc := CV.int) (a := x2))) (n_var (i := 1) (enc := CV.int) (a := a_column))) (al_cons (n_tup2 (n_var (i := 0) (enc := CV.int) (a := a_row)) (n_e2P o_addI (n_var (i := 1) (enc := CV.int) (a := a_column)) (n_var (i := 3) (enc := CV.int) (a := x2)))) (al_cons (n_tup2 (n_var (i := 0) (enc := CV.int) (a := a_row)) (n_e2P o_sub (n_var (i := 1) (enc := CV.int) (a := a_column)) (n_var (i := 3) (enc := CV.int) (a := x2)))) (al_nil (e := (eT2 CV.int CV.int)))))))))) ⟨rfl, ⟨rfl, ⟨rfl, ⟨rfl, trivial⟩⟩⟩⟩ rfl (fun (s3 : Unit) (x4 : (Int × Int)) => (tg_tp (vs := [CV.int x4.1, CV.int x4.2]) (tgs_cons tg_nm (tgs_cons tg_nm tgs_nil)))) (fun (s3 : Unit) (x4 : (Int × Int)) => (s_end (s_if (n_tNot (n_tV (n_call (av_consP (n_var (i := 4) (enc := CV.int) (a := x4.1)) (av_consP (n_var (i := 5) (enc := CV.int) (a := x4.2)) (av_nil fun fl t => t_within x4.1 x4.2 _)))))) (s_ret (n_c (enc := CV.bl) (a := true))) (s_nil (s_doneL (s := ()) ⟨rfl, ⟨rfl, ⟨rfl, ⟨rfl, trivial⟩⟩⟩⟩))))) (fun s3 => (s_doneL (s := ()) ⟨rfl, ⟨rfl, ⟨rfl, trivial⟩⟩⟩))))) (fun s1 => (s_end (s_retF (n_c (enc := CV.bl) (a := false)))))) : Ss [some (CV.int a_row), some (CV.int a_column), some (CV.int a_width), none, none, none] [] (b_is_border F_within) _ (postF CV.bl)).eqN (by first | rfl | (unfold n_is_border; simp only [An.ok_bind, An.ok_bD]; done) | (unfold n_is_border; simp only [An.ok_bind, An.ok_bD]; rfl))) hp
def F_on_band_0 : Fn := fun _ _ => .stuck
def F_on_band_1 : Fn := loc (fnM 4 (b_on_band F_on_band_0 F_is_border))
def F_on_band_2 : Fn := loc (fnM 4 (b_on_band F_on_band_1 F_is_border))
abbrev F_on_band : Fn := F_on_band_2
def nb_on_band (n_on_band_r : (List Nat) → Int → Int → Int → An Bool) (a_name : (List Nat)) (a_row : Int) (a_column : Int) (a_width : Int) : An Bool := cond (inF true a_name d_NAMES) (.exc x_BadShape []) (cond (!(decide ((1 : Int) ≤ a_width) && decide (a_width ≤ (6 : Int)))) (.exc x_BadShape []) (cond (decide (a_name = ([112, 97, 108, 101] : List Nat))) (.ok (decide ((if ((((2 : Int) * a_column) - 12) + (1 : Int)) < 0 then -((((2 : Int) * a_column) - 12) + (1 : Int)) else ((((2 : Int) * a_column) - 12) + (1 : Int))) < ((2 : Int) * a_width)))) (cond (decide (a_name = ([102, 101, 115, 115] : List Nat))) (.ok (decide ((if ((((2 : Int) * a_row) - 14) + (1 : Int)) < 0 then -((((2 : Int) * a_row) - 14) + (1 : Int)) else ((((2 : Int) * a_row) - 14) + (1 : Int))) < ((2 : Int) * a_width)))) (cond (decide (a_name = ([98, 101, 110, 100] : List Nat))) (.ok (decide ((if (a_row - a_column) < 0 then -(a_row - a_column) else (a_row - a_column)) < a_width))) (cond (decide (a_name = ([115, 105, 110, 105, 115, 116, 101, 114] : List Nat))) (.ok (decide ((if (a_row - ((12 - (1 : Int)) - a_column)) < 0 then -(a_row - ((12 - (1 : Int)) - a_column)) else (a_row - ((12 - (1 : Int)) - a_column))) < a_width))) (cond (decide (a_name = ([99, 104, 101, 118, 114, 111, 110] : List Nat))) (.ok (decide ((0 : Int) ≤ ((a_row - (3 : Int)) - ((if ((((2 : Int) * a_column) - 12) + (1 : Int)) < 0 then -((((2 : Int) * a_column) - 12) + (1 : Int)) else ((((2 : Int) * a_column) - 12) + (1 : Int))) / (2 : Int)))) && decide (((a_row - (3 : Int)) - ((if ((((2 : Int) * a_column) - 12) + (1 : Int)) < 0 then -((((2 : Int) * a_column) - 12) + (1 : Int)) else ((((2 : Int) * a_column) - 12) + (1 : Int))) / (2 : Int))) < a_width))) (cond (decide (a_name = ([99, 114, 111, 115, 115] : List Nat))) (((n_on_band_r ([112, 97, 108, 101] : List Nat) a_row a_column a_width).bind fun v1 => cond v1 (.ok true) (An.ok (decide ((if ((((2 : Int) * a_row) - 12) + (1 : Int)) < 0 then -((((2 : Int) * a_row) - 12) + (1 : Int)) else ((((2 : Int) * a_row) - 12) + (1 : Int))) < ((2 : Int) * a_width)))))) (cond (decide (a_name = ([115, 97, 108, 116, 105, 114, 101] : List Nat))) (((n_on_band_r ([98, 101, 110, 100] : List Nat) a_row a_column a_width).bind fun v2 => cond v2 (.ok true) (n_on_band_r ([115, 105, 110, 105, 115, 116, 101, 114] : List Nat) a_row a_column a_width))) (cond (decide (a_name = ([99, 104, 105, 101, 102] : List Nat))) (.ok (decide (a_row < a_width))) (cond (decide (a_name = ([98, 97, 115, 101] : List Nat))) (.ok (decide ((14 - ((2 : Int) * a_width)) ≤ a_row))) (cond (decide (a_name = ([99, 97, 110, 116, 111, 110] : List Nat))) (.ok ((decide (a_row < (a_width + (1 : Int)))) && (decide (a_column < (a_width + (1 : Int)))))) ((n_is_border a_row a_column a_width)))))))))))))
def n_on_band_0 (a_name : (List Nat)) (a_row : Int) (a_column : Int) (a_width : Int) : An Bool := .stuck
def n_on_band_1 (a_name : (List Nat)) (a_row : Int) (a_column : Int) (a_width : Int) : An Bool := nb_on_band n_on_band_0 a_name a_row a_column a_width
def n_on_band_2 (a_name : (List Nat)) (a_row : Int) (a_column : Int) (a_width : Int) : An Bool := nb_on_band n_on_band_1 a_name a_row a_column a_width
abbrev n_on_band (a_name : (List Nat)) (a_row : Int) (a_column : Int) (a_width : Int) : An Bool := n_on_band_2 a_name a_row a_column a_width
theorem tb_on_band {Fr : Fn} {n_on_band_r : (List Nat) → Int → Int → Int → An Bool} (hr : ∀ (a_name : (List Nat)) (a_row : Int) (a_column : Int) (a_width : Int) hp, Gi (n_on_band_r a_name a_row a_column a_width) (Is CV.bl) hp (Fr [CV.str a_name, CV.int a_row, CV.int a_column, CV.int a_width] hp)) (a_name : (List Nat)) (a_row : Int) (a_column : Int) (a_width : Int) (hp : Hc) : Gi (nb_on_band n_on_band_r a_name a_row a_column a_width) (Is CV.bl) hp (loc (fnM 4 (b_on_band Fr F_is_border)) [CV.str a_name, CV.int a_row, CV.int a_column, CV.int a_width] hp) := fn_loc (n := 4) (args := [CV.str a_name, CV.int a_row, CV.int a_column, CV.int a_width]) (l_cons (Fz.lim (e := CV.str) _) (l_cons (Fz.lim (e := CV.int) _) (l_cons (Fz.lim (e := CV.int) _) (l_cons (Fz.lim (e := CV.int) _) rfl)))) (show Ss [some (CV.str a_name), some (CV.int a_row), some (CV.int a_column), some (CV.int a_width)] [] (b_on_band Fr F_is_border) (nb_on_band n_on_band_r a_name a_row a_column a_width) (postF CV.bl) from ((s_ifP (n_tV (n_e2P (o_inF (neg := true)) (n_var (i := 0) (enc := CV.str) (a := a_name)) (x_sq (x_ws (n_c (v := c_NAMES) (enc := (eWs CV.str)) (a := d_NAMES)))))) s_raise (s_nil (s_ifP (n_tNot (n_tV (n_chainP (op := (fun (x y : Int) => decide (x ≤ y))) (op' := (fun (x y : Int) => decide (x ≤ y))) o_le o_le (n_c (enc := CV.int) (a := 1)) (n_var (i := 3) (enc := CV.int) (a := a_width)) (n_c (enc := CV.int) (a := 6))))) s_raise (s_nil (s_ifP (n_tV (n_e2P o_eqS (n_var (i := 0) (enc := CV.str) (a := a_name)) (n_c (enc := CV.str) (a := [112, 97, 108, 101])))) (s_retF (n_e2P o_lt (n_abs (n_e2P o_addI (n_e2P o_sub (n_mulL (n_var (i := 2) (enc := CV.int) (a := a_column))) (n_c (v := c_WIDE) (enc := CV.int) (a := 12))) (n_c (enc := CV.int) (a := 1)))) (n_mulL (n_var (i := 3) (enc := CV.int) (a := a_width))))) (s_nil (s_ifP (n_tV (n_e2P o_eqS (n_var (i := 0) (enc := CV.str) (a := a_name)) (n_c (enc := CV.str) (a := [102, 101, 115, 115])))) (s_retF (n_e2P o_lt (n_abs (n_e2P o_addI (n_e2P o_sub (n_mulL (n_var (i := 1) (enc := CV.int) (a := a_row))) (n_c (v := c_HIGH) (enc := CV.int) (a := 14))) (n_c (enc := CV.int) (a := 1)))) (n_mulL (n_var (i := 3) (enc := CV.int) (a := a_width))))) (s_nil (s_ifP (n_tV (n_e2P o_eqS (n_var (i := 0) (enc := CV.str) (a := a_name)) (n_c (enc := CV.str) (a := [98, 101, 110, 100])))) (s_retF (n_e2P o_lt (n_abs (n_e2P o_sub (n_var (i := 1) (enc := CV.int) (a := a_row)) (n_var (i := 2) (enc := CV.int) (a := a_column)))) (n_var (i := 3) (enc := CV.int) (a := a_width)))) (s_nil (s_ifP (n_tV (n_e2P o_eqS (n_var (i := 0) (enc := CV.str) (a := a_name)) (n_c (enc := CV.str) (a := [115, 105, 110, 105, 115, 116, 101, 114])))) (s_retF (n_e2P o_lt (n_abs (n_e2P o_sub (n_var (i := 1) (enc := CV.int) (a := a_row)) (n_e2P o_sub (n_e2P o_sub (n_c (v := c_WIDE) (enc := CV.int) (a := 12)) (n_c (enc := CV.int) (a := 1))) (n_var (i := 2) (enc := CV.int) (a := a_column))))) (n_var (i := 3) (enc := CV.int) (a := a_width)))) (s_nil (s_ifP (n_tV (n_e2P o_eqS (n_var (i := 0) (enc := CV.str) (a := a_name)) (n_c (enc := CV.str) (a := [99, 104, 101, 118, 114, 111, 110])))) (s_retF (n_chainP (op := (fun (x y : Int) => decide (x ≤ y))) (op' := (fun (x y : Int) => decide (x < y))) o_le o_lt (n_c (enc := CV.int) (a := 0)) (n_e2P o_sub (n_e2P o_sub (n_var (i := 1) (enc := CV.int) (a := a_row)) (n_c (enc := CV.int) (a := 3))) (n_divR (n_abs (n_e2P o_addI (n_e2P o_sub (n_mulL (n_var (i := 2) (enc := CV.int) (a := a_column))) (n_c (v := c_WIDE) (enc := CV.int) (a := 12))) (n_c (enc := CV.int) (a := 1)))))) (n_var (i := 3) (enc := CV.int) (a := a_width)))) (s_nil (s_ifP (n_tV (n_e2P o_eqS (n_var (i := 0) (enc := CV.str) (a := a_name)) (n_c (enc := CV.str) (a := [99, 114, 111, 115, 115])))) (s_retF (n_or (n_call (av_consP (n_c (enc := CV.str) (a := [112, 97, 108, 101])) (av_consP (n_var (i := 1) (enc := CV.int) (a := a_row)) (av_consP (n_var (i := 2) (enc := CV.int) (a := a_column)) (av_consP (n_var (i := 3) (enc := CV.int) (a := a_width)) (av_nil fun fl t => hr ([112, 97, 108, 101] : List Nat) a_row a_column a_width _)))))) (n_e2P o_lt (n_abs (n_e2P o_addI (n_e2P o_sub (n_mulL (n_var (i := 1) (enc := CV.int) (a := a_row))) (n_c (v := c_WIDE) (enc := CV.int) (a := 12))) (n_c (enc := CV.int) (a := 1)))) (n_mulL (n_var (i := 3) (enc := CV.int) (a := a_width)))))) (s_nil (s_ifP (n_tV (n_e2P o_eqS (n_var (i := 0) (enc := CV.str) (a := a_name)) (n_c (enc := CV.str) (a := [115, 97, 108, 116, 105, 114, 101])))) (s_retF (n_or (n_call (av_consP (n_c (enc := CV.str) (a := [98, 101, 110, 100])) (av_consP (n_var (i := 1) (enc := CV.int) (a := a_row)) (av_consP (n_var (i := 2) (enc := CV.int) (a := a_column)) (av_consP (n_var (i := 3) (enc := CV.int) (a := a_width)) (av_nil fun fl t => hr ([98, 101, 110, 100] : List Nat) a_row a_column a_width _)))))) (n_call (av_consP (n_c (enc := CV.str) (a := [115, 105, 110, 105, 115, 116, 101, 114])) (av_consP (n_var (i := 1) (enc := CV.int) (a := a_row)) (av_consP (n_var (i := 2) (enc := CV.int) (a := a_column)) (av_consP (n_var (i := 3) (enc := CV.int) (a := a_width)) (av_nil fun fl t => hr ([115, 105, 110, 105, 115, 116, 101, 114] : List Nat) a_row a_column a_width _)))))))) (s_nil (s_ifP (n_tV (n_e2P o_eqS (n_var (i := 0) (enc := CV.str) (a := a_name)) (n_c (enc := CV.str) (a := [99, 104, 105, 101, 102])))) (s_retF (n_e2P o_lt (n_var (i := 1) (enc := CV.int) (a := a_row)) (n_var (i := 3) (enc := CV.int) (a := a_width)))) (s_nil (s_ifP (n_tV (n_e2P o_eqS (n_var (i := 0) (enc := CV.str) (a := a_name)) (n_c (enc := CV.str) (a := [98, 97, 115, 101])))) (s_retF (n_e2P o_ge (n_var (i := 1) (enc := CV.int) (a := a_row)) (n_e2P o_sub (n_c (v := c_HIGH) (enc := CV.int) (a := 14)) (n_mulL (n_var (i := 3) (enc := CV.int) (a := a_width)))))) (s_nil (s_ifP (n_tV (n_e2P o_eqS (n_var (i := 0) (enc := CV.str) (a := a_name)) (n_c (enc := CV.str) (a := [99, 97, 110, 116, 111, 110])))) (s_retF (n_andP (n_e2P o_lt (n_var (i := 1) (enc := CV.int) (a := a_row)) (n_e2P o_addI (n_var (i := 3) (enc := CV.int) (a := a_width)) (n_c (enc := CV.int) (a := 1)))) (n_e2P o_lt (n_var (i := 2) (enc := CV.int) (a := a_column)) (n_e2P o_addI (n_var (i := 3) (enc := CV.int) (a := a_width)) (n_c (enc := CV.int) (a := 1)))))) (s_nil (s_end (s_retF (n_call (av_consP (n_var (i := 1) (enc := CV.int) (a := a_row)) (av_consP (n_var (i := 2) (enc := CV.int) (a := a_column)) (av_consP (n_var (i := 3) (enc := CV.int) (a := a_width)) (av_nil fun fl t => t_is_border a_row a_column a_width _))))))))))))))))))))))))))))))) : Ss [some (CV.str a_name), some (CV.int a_row), some (CV.int a_column), some (CV.int a_width)] [] (b_on_band Fr F_is_border) _ (postF CV.bl)).eqN (by first | rfl | (unfold nb_on_band; simp only [An.ok_bind, An.ok_bD]; done) | (unfold nb_on_band; simp only [An.ok_bind, An.ok_bD]; rfl))) hp
theorem t_on_band_0 (a_name : (List Nat)) (a_row : Int) (a_column : Int) (a_width : Int) (hp : Hc) : Gi (n_on_band_0 a_name a_row a_column a_width) (Is CV.bl) hp (F_on_band_0 [CV.str a_name, CV.int a_row, CV.int a_column, CV.int a_width] hp) := trivial
theorem t_on_band_1 (a_name : (List Nat)) (a_row : Int) (a_column : Int) (a_width : Int) (hp : Hc) : Gi (n_on_band_1 a_name a_row a_column a_width) (Is CV.bl) hp (F_on_band_1 [CV.str a_name, CV.int a_row, CV.int a_column, CV.int a_width] hp) := tb_on_band t_on_band_0 a_name a_row a_column a_width hp
theorem t_on_band_2 (a_name : (List Nat)) (a_row : Int) (a_column : Int) (a_width : Int) (hp : Hc) : Gi (n_on_band_2 a_name a_row a_column a_width) (Is CV.bl) hp (F_on_band_2 [CV.str a_name, CV.int a_row, CV.int a_column, CV.int a_width] hp) := tb_on_band t_on_band_1 a_name a_row a_column a_width hp
theorem t_on_band (a_name : (List Nat)) (a_row : Int) (a_column : Int) (a_width : Int) (hp : Hc) : Gi (n_on_band a_name a_row a_column a_width) (Is CV.bl) hp (F_on_band [CV.str a_name, CV.int a_row, CV.int a_column, CV.int a_width] hp) := t_on_band_2 a_name a_row a_column a_width hp
def F_Band___init__ : Fn := fnM 4 (b_Band___init__ F_check_colour F_on_band)
def n_Band___init__ (a_name : (List Nat)) (a_colour : (List Nat)) (a_width : Int) : An C_Band := (n_check_colour a_colour).bind fun _u2 => (n_on_band a_name (0 : Int) (0 : Int) a_width).bind fun _u1 => .ok ⟨a_name, a_colour, a_width⟩
theorem t_Band___init__ (a_name : (List Nat)) (a_colour : (List Nat)) (a_width : Int) (hp : Hc) : Gi (n_Band___init__ a_name a_colour a_width) (Is eC_Band) hp (mkZ 3 F_Band___init__ [CV.str a_name, CV.str a_colour, CV.int a_width] hp) := fn_init (n := 4) (args := [CV.str a_name, CV.str a_colour, CV.int a_width]) (fun _ => ⟨_, rfl⟩) (l_cons (Fz.lim (e := CV.str) _) (l_cons (Fz.lim (e := CV.str) _) (l_cons (Fz.lim (e := CV.int) _) rfl))) (show Ss [some (.ref 0), some (CV.str a_name), some (CV.str a_colour), some (CV.int a_width)] [.ins 3 []] (b_Band___init__ F_check_colour F_on_band) (n_Band___init__ a_name a_colour a_width) (postI eC_Band) from ((s_exp (n_call (av_consP (n_var (i := 2) (enc := CV.str) (a := a_colour)) (av_nil fun fl t => t_check_colour a_colour _))) (fun _u2 => (s_exp (n_call (av_consP (n_var (i := 1) (enc := CV.str) (a := a_name)) (av_consP (n_c (enc := CV.int) (a := 0)) (av_consP (n_c (enc := CV.int) (a := 0)) (av_consP (n_var (i := 3) (enc := CV.int) (a := a_width)) (av_nil fun fl t => t_on_band a_name (0 : Int) (0 : Int) a_width _)))))) (fun _u1 => (s_fldP (e := CV.str) (c := 3) (n := 0) (i := 0) (fs := []) (n_var (i := 1) (enc := CV.str) (a := a_name)) (s_fldP (e := CV.str) (c := 3) (n := 0) (i := 0) (fs := [(0, CV.str a_name)]) (n_var (i := 2) (enc := CV.str) (a := a_colour)) (s_end (s_fldP (e := CV.int) (c := 3) (n := 0) (i := 0) (fs := [(0, CV.str a_name), (1, CV.str a_colour)]) (n_var (i := 3) (enc := CV.int) (a := a_width)) (s_doneI (enc := eC_Band) (x := ⟨a_name, a_colour, a_width⟩) rfl (lf_cons (Fz.lim (e := CV.str) _) (lf_cons (Fz.lim (e := CV.str) _) (lf_cons (Fz.lim (e := CV.int) _) lf_nil)))))))))))) : Ss [some (.ref 0), some (CV.str a_name), some (CV.str a_colour), some (CV.int a_width)] [.ins 3 []] (b_Band___init__ F_check_colour F_on_band) _ (postI eC_Band)).eqN (by first | rfl | (unfold n_Band___init__; simp only [An.ok_bind, An.ok_bD]; done) | (unfold n_Band___init__; simp only [An.ok_bind, An.ok_bD]; rfl))) hp
def F_check_figure : Fn := loc (fnM 1 b_check_figure)
def n_check_figure (a_name : (List Nat)) : An Unit := cond (ngB true (nlook a_name t_FIGURES).isSome) (.exc x_BadShape []) (.ok ())
theorem t_check_figure (a_name : (List Nat)) (hp : Hc) : Gi (n_check_figure a_name) (Is eN) hp (F_check_figure [CV.str a_name] hp) := fn_loc (n := 1) (args := [CV.str a_name]) (l_cons (Fz.lim (e := CV.str) _) rfl) (show Ss [some (CV.str a_name)] [] b_check_figure (n_check_figure a_name) (postF eN) from ((s_end (s_ifP (n_tV (n_inW (n_var (i := 0) (enc := CV.str) (a := a_name)) t_FIGURES)) s_raise (s_nil s_noneF))) : Ss [some (CV.str a_name)] [] b_check_figure _ (postF eN)).eqN (by first | rfl | (unfold n_check_figure; simp only [An.ok_bind, An.ok_bD]; done) | (unfold n_check_figure; simp only [An.ok_bind, An.ok_bD]; rfl))) hp
def F_figure_places : Fn := loc (fnM 6 (b_figure_places F_check_figure))
def n_figure_places (a_name : (List Nat)) : An (List (Int × Int)) := (n_check_figure a_name).bind fun _u4 => (An.opt (nlook a_name t_FIGURES)).bind fun v1 => (((compA2 (fun (x2 : (Int × (List Nat))) => (An.ok true)) (fun (x2 : (Int × (List Nat))) => (compA (fun (y3 : (Int × (List Nat))) => (An.ok (decide (y3.2 = ([35] : List Nat))))) (fun (y3 : (Int × (List Nat))) => (An.ok (x2.1, y3.1))) (enumL 0 (x2.2.map fun c => [c])))) (enumL 0 v1)).bind okL))
theorem t_figure_places (a_name : (List Nat)) (hp : Hc) : Gi (n_figure_places a_name) (Is (eTs (eT2 CV.int CV.int))) hp (F_figure_places [CV.str a_name] hp) := fn_loc (n := 6) (args := [CV.str a_name]) (l_cons (Fz.lim (e := CV.str) _) rfl) (show Ss [some (CV.str a_name), none, none, none, none, none] [] (b_figure_places F_check_figure) (n_figure_places a_name) (postF (eTs (eT2 CV.int CV.int))) from ((s_exp (n_call (av_consP (n_var (i := 0) (enc := CV.str) (a := a_name)) (av_nil fun fl t => t_check_figure a_name _))) (fun _u4 => (s_asg (n_getW (ev := (eWs CV.str)) (n_var (i := 0) (enc := CV.str) (a := a_name)) t_FIGURES) (fun v1 => tg_nm) (fun v1 => (s_end (s_retF (n_tupL (sl_ls (n_comp2 (eb := (eT2 CV.int CV.int)) (i_en (x_ws (n_var (i := 1) (enc := (eWs CV.str)) (a := v1)))) (fun (x2 : (Int × (List Nat))) => (tg_tp (vs := [CV.int x2.1, CV.str x2.2]) (tgs_cons tg_nm (tgs_cons tg_nm tgs_nil)))) (fun (x2 : (Int × (List Nat))) => n_tTrue) (fun (x2 : (Int × (List Nat))) => (i_enS (n_var (i := 3) (enc := CV.str) (a := x2.2)))) (fun (x2 : (Int × (List Nat))) (y3 : (Int × (List Nat))) => (tg_tp (vs := [CV.int y3.1, CV.str y3.2]) (tgs_cons tg_nm (tgs_cons tg_nm tgs_nil)))) (fun (x2 : (Int × (List Nat))) (y3 : (Int × (List Nat))) => (n_tV (n_e2P o_eqS (n_var (i := 5) (enc := CV.str) (a := y3.2)) (n_c (enc := CV.str) (a := [35]))))) (fun (x2 : (Int × (List Nat))) (y3 : (Int × (List Nat))) => (n_tup2 (n_var (i := 2) (enc := CV.int) (a := x2.1)) (n_var (i := 4) (enc := CV.int) (a := y3.1))))))))))))) : Ss [some (CV.str a_name), none, none, none, none, none] [] (b_figure_places F_check_figure) _ (postF (eTs (eT2 CV.int CV.int)))).eqN (by first | rfl | (unfold n_figure_places; simp only [An.ok_bind, An.ok_bD]; done) | (unfold n_figure_places; simp only [An.ok_bind, An.ok_bD]; rfl))) hp
def F_squares : Fn := loc (fnM 4 b_squares)
def n_squares : An (List (Int × Int)) := (((compA2 (fun (x1 : (Int × (Int × Int))) => (An.ok true)) (fun (x1 : (Int × (Int × Int))) => ((grd (okR x1.2.1 && okR x1.2.2) (.ok (rngL x1.2.1 x1.2.2))).bind fun v3 => compA (fun (y2 : Int) => (An.ok true)) (fun (y2 : Int) => (An.ok (x1.1, y2))) v3)) (enumL 0 d_SPANS)).bind okL))
theorem t_squares (hp : Hc) : Gi (n_squares ) (Is (eTs (eT2 CV.int CV.int))) hp (F_squares [] hp) := fn_loc (n := 4) (args := []) rfl (show Ss [none, none, none, none] [] b_squares (n_squares ) (postF (eTs (eT2 CV.int CV.int))) from ((s_end (s_retF (n_tupL (sl_ls (n_comp2 (eb := (eT2 CV.int CV.int)) (i_en (x_ws (n_c (v := c_SPANS) (enc := (eWs (eW2 CV.int CV.int))) (a := d_SPANS)))) (fun (x1 : (Int × (Int × Int))) => (tg_tp (vs := [CV.int x1.1, (eW2 CV.int CV.int) x1.2]) (tgs_cons tg_nm (tgs_cons (tg_tp (vs := [CV.int x1.2.1, CV.int x1.2.2]) (tgs_cons tg_nm (tgs_cons tg_nm tgs_nil))) tgs_nil)))) (fun (x1 : (Int × (Int × Int))) => n_tTrue) (fun (x1 : (Int × (Int × Int))) => (i_r2 (n_var (i := 1) (enc := CV.int) (a := x1.2.1)) (n_var (i := 2) (enc := CV.int) (a := x1.2.2)))) (fun (x1 : (Int × (Int × Int))) (y2 : Int) => tg_nm) (fun (x1 : (Int × (Int × Int))) (y2 : Int) => n_tTrue) (fun (x1 : (Int × (Int × Int))) (y2 : Int) => (n_tup2 (n_var (i := 0) (enc := CV.int) (a := x1.1)) (n_var (i := 3) (enc := CV.int) (a := y2))))))))) : Ss [none, none, none, none] [] b_squares _ (postF (eTs (eT2 CV.int CV.int)))).eqN (by first | rfl | (unfold n_squares; simp only [An.ok_bind, An.ok_bD]; done) | (unfold n_squares; simp only [An.ok_bind, An.ok_bD]; rfl))) hp
def F_Band_places : Fn := loc (fnM 2 (b_Band_places F_squares F_on_band))
def n_Band_places (a_self : C_Band) : An (List (Int × Int)) := (n_squares.bind fun v2 => ((compA (fun (x1 : (Int × Int)) => (n_on_band a_self.f_name x1.1 x1.2 a_self.f_width)) (fun (x1 : (Int × Int)) => (An.ok x1)) v2).bind okL))
theorem t_Band_places (a_self : C_Band) (hp : Hc) : Gi (n_Band_places a_self) (Is (eTs (eT2 CV.int CV.int))) hp (F_Band_places [eC_Band a_self] hp) := fn_loc (n := 2) (args := [eC_Band a_self]) (l_cons (Fz.lim (e := eC_Band) _) rfl) (show Ss [some (eC_Band a_self), none] [] (b_Band_places F_squares F_on_band) (n_Band_places a_self) (postF (eTs (eT2 CV.int CV.int))) from ((s_end (s_retF (n_tupL (sl_ls (n_comp (eb := (eT2 CV.int CV.int)) (i_seq (x_ts (n_call0 fun hp => t_squares hp))) (fun (x1 : (Int × Int)) => tg_nm) (fun (x1 : (Int × Int)) => (n_tV (n_call (av_consP (n_fld (enc' := CV.str) (g := fun (a : C_Band) => a.f_name) (n_var (i := 0) (enc := eC_Band) (a := a_self))) (av_consP (n_ixC (enc' := CV.int) (g := fun (a : (Int × Int)) => a.1) (n_var (i := 1) (enc := (eT2 CV.int CV.int)) (a := x1))) (av_consP (n_ixC (enc' := CV.int) (g := fun (a : (Int × Int)) => a.2) (n_var (i := 1) (enc := (eT2 CV.int CV.int)) (a := x1))) (av_consP (n_fld (enc' := CV.int) (g := fun (a : C_Band) => a.f_width) (n_var (i := 0) (enc := eC_Band) (a := a_self))) (av_nil fun fl t => t_on_band a_self.f_name x1.1 x1.2 a_self.f_width _)))))))) (fun (x1 : (Int × Int)) => (n_var (i := 1) (enc := (eT2 CV.int CV.int)) (a := x1)))))))) : Ss [some (eC_Band a_self), none] [] (b_Band_places F_squares F_on_band) _ (postF (eTs (eT2 CV.int CV.int)))).eqN (by first | rfl | (unfold n_Band_places; simp only [An.ok_bind, An.ok_bD]; done) | (unfold n_Band_places; simp only [An.ok_bind, An.ok_bD]; rfl))) hp
def F_on_band_rows : Fn := loc (fnM 11 (b_on_band_rows F_Band_places F_squares F_figure_places))
def n_on_band_rows (a_name : (List Nat)) (a_band : C_Band) : An (List (Int × Int)) := ((n_Band_places a_band).bind fun v2 => ((dcA (fun (x1 : (Int × Int)) => (An.ok true)) (fun (x1 : (Int × Int)) => (An.ok x1)) (fun (x1 : (Int × Int)) => (An.ok true)) [] v2).bind okD)).bind fun v3 => (n_squares.bind fun v13 => (forF (fun (s4 : ((List (Int × Int)) × (List ((Int × Int) × Bool)))) (x5 : (Int × Int)) => (((n_figure_places a_name).bind fun v7 => okL (v7.map fun (x6 : (Int × Int)) => ((x5.1 + x6.1), (x5.2 + x6.2)))).bind fun v8 => ((cond (v8.all fun (x9 : (Int × Int)) => ((ngB false (nlook x9 v3).isSome) && (ngB true (nlook x9 s4.2).isSome))) (grd (okA s4.1.length) (((forF (fun (s11 : (List ((Int × Int) × Bool))) (x12 : (Int × Int)) => (grd (okA s11.length) (.ok (nput x12 true s11)) : An (List ((Int × Int) × Bool)))) s4.2 v8).bind fun s11 => .ok ((s4.1 ++ [(x5.1, x5.2)]), s11)))) (.ok (s4.1, s4.2))) : An ((List (Int × Int)) × (List ((Int × Int) × Bool)))).bind fun s10 => .ok (s10.1, s10.2) : An ((List (Int × Int)) × (List ((Int × Int) × Bool))))) (([] : (List (Int × Int))), ([] : (List ((Int × Int) × Bool)))) v13).bind fun s4 => .ok s4.1)
theorem t_on_band_rows (a_name : (List Nat)) (a_band : C_Band) (hp : Hc) : Gi (n_on_band_rows a_name a_band) (Is (eTs (eT2 CV.int CV.int))) hp (F_on_band_rows [CV.str a_name, eC_Band a_band] hp) := fn_loc (n := 11) (args := [CV.str a_name, eC_Band a_band]) (l_cons (Fz.lim (e := CV.str) _) (l_cons (Fz.lim (e := eC_Band) _) rfl)) (show Ss [some (CV.str a_name), some (eC_Band a_band), none, none, none, none, none, none, none, none, none] [] (b_on_band_rows F_Band_places F_squares F_figure_places) (n_on_band_rows a_name a_band) (postF (eTs (eT2 CV.int CV.int))) from ((s_tup (sa_cons (n_dcomp (ek := (eT2 CV.int CV.int)) (ev := CV.bl) (i_seq (x_ts (n_meth0P (n_var (i := 1) (enc := eC_Band) (a := a_band)) fun hp => t_Band_places a_band hp))) (fun (x1 : (Int × Int)) => tg_nm) (fun (x1 : (Int × Int)) => n_tTrue) (fun (x1 : (Int × Int)) => (n_var (i := 8) (enc := (eT2 CV.int CV.int)) (a := x1))) (fun (x1 : (Int × Int)) => (n_c (enc := CV.bl) (a := true)))) fun v3 => (sa_newD (sa_newL (sa_nil (tupK_ok (tg_tp (vs := [(eDt true (eT2 CV.int CV.int) CV.bl) v3, .ref 0, .ref 1]) (tgs_cons tg_nm (tgs_cons tg_nm (tgs_cons tg_nm tgs_nil)))) (s_forF (st := (fun (s4 : ((List (Int × Int)) × (List ((Int × Int) × Bool)))) => ([some (CV.str a_name), some (eC_Band a_band), some ((eDt true (eT2 CV.int CV.int) CV.bl) v3), some (.ref 0), some (.ref 1), none, none, none, none, none, none], [.dic true (s4.2.map (eKV (eT2 CV.int CV.int) CV.bl)), .lst (s4.1.map (eT2 CV.int CV.int))]))) (s0 := (([] : (List (Int × Int))), ([] : (List ((Int × Int) × Bool))))) (i_seq (x_ts (n_call0 fun hp => t_squares hp))) ⟨rfl, ⟨rfl, ⟨rfl, ⟨rfl, ⟨rfl, trivial⟩⟩⟩⟩⟩ rfl (fun (s4 : ((List (Int × Int)) × (List ((Int × Int) × Bool)))) (x5 : (Int × Int)) => (tg_tp (vs := [CV.int x5.1, CV.int x5.2]) (tgs_cons tg_nm (tgs_cons tg_nm tgs_nil)))) (fun (s4 : ((List (Int × Int)) × (List ((Int × Int) × Bool)))) (x5 : (Int × Int)) => (s_asg (n_compM (eb := (eT2 CV.int CV.int)) (i_seq (x_ts (n_call (av_consP (n_var (i := 0) (enc := CV.str) (a := a_name)) (av_nil fun fl t => t_figure_places a_name _))))) (fun (x6 : (Int × Int)) => (tg_tp (vs := [CV.int x6.1, CV.int x6.2]) (tgs_cons tg_nm (tgs_cons tg_nm tgs_nil)))) (fun (x6 : (Int × Int)) => (n_tup2 (n_e2P o_addI (n_var (i := 5) (enc := CV.int) (a := x5.1)) (n_var (i := 9) (enc := CV.int) (a := x6.1))) (n_e2P o_addI (n_var (i := 6) (enc := CV.int) (a := x5.2)) (n_var (i := 10) (enc := CV.int) (a := x6.2)))))) (fun v8 => tg_nm) (fun v8 => (s_end (s_join (st := (fun (s10 : ((List (Int × Int)) × (List ((Int × Int) × Bool)))) => ([some (CV.str a_name), some (eC_Band a_band), some ((eDt true (eT2 CV.int CV.int) CV.bl) v3), some (.ref 0), some (.ref 1), some (CV.int x5.1), some (CV.int x5.2), some ((eLs (eT2 CV.int CV.int)) v8), none, none, none], [.dic true (s10.2.map (eKV (eT2 CV.int CV.int) CV.bl)), .lst (s10.1.map (eT2 CV.int CV.int))]))) (s_end (s_ifP (n_tV (n_allP (i_seq (x_ls (n_var (i := 7) (enc := (eLs (eT2 CV.int CV.int))) (a := v8)))) (fun (x9 : (Int × Int)) => tg_nm) (fun (x9 : (Int × Int)) => (n_andP (n_e2P (o_inK (neg := false)) (n_var (i := 8) (enc := (eT2 CV.int CV.int)) (a := x9)) (x_dct (n_var (i := 2) (enc := (eDt true (eT2 CV.int CV.int) CV.bl)) (a := v3)))) (n_e2P (o_inK (neg := true)) (n_var (i := 8) (enc := (eT2 CV.int CV.int)) (a := x9)) (x_dref (t := true) (ek := (eT2 CV.int CV.int)) (ev := CV.bl) (i := 3) (n := 0) (kvs := s4.2))))))) (s_assoc (s_appendP (e := (eT2 CV.int CV.int)) (i := 4) (n := 1) (xs := s4.1) (n_tup2 (n_var (i := 5) (enc := CV.int) (a := x5.1)) (n_var (i := 6) (enc := CV.int) (a := x5.2))) (s_forF (st := (fun (s11 : (List ((Int × Int) × Bool))) => ([some (CV.str a_name), some (eC_Band a_band), some ((eDt true (eT2 CV.int CV.int) CV.bl) v3), some (.ref 0), some (.ref 1), some (CV.int x5.1), some (CV.int x5.2), some ((eLs (eT2 CV.int CV.int)) v8), none, none, none], [.dic true (s11.map (eKV (eT2 CV.int CV.int) CV.bl)), .lst ((s4.1 ++ [(x5.1, x5.2)]).map (eT2 CV.int CV.int))]))) (s0 := s4.2) (i_seq (x_ls (n_var (i := 7) (enc := (eLs (eT2 CV.int CV.int))) (a := v8)))) ⟨rfl, ⟨rfl, ⟨rfl, ⟨rfl, ⟨rfl, ⟨rfl, ⟨rfl, ⟨rfl, trivial⟩⟩⟩⟩⟩⟩⟩⟩ rfl (fun (s11 : (List ((Int × Int) × Bool))) (x12 : (Int × Int)) => tg_nm) (fun (s11 : (List ((Int × Int) × Bool))) (x12 : (Int × Int)) => (s_end (s_dputP (t := true) (ek := (eT2 CV.int CV.int)) (ev := CV.bl) (i := 3) (n := 0) (kvs := s11) (n_c (enc := CV.bl) (a := true)) (n_var (i := 8) (enc := (eT2 CV.int CV.int)) (a := x12)) (s_done (s := (nput x12 true s11)) ⟨rfl, ⟨rfl, ⟨rfl, ⟨rfl, ⟨rfl, ⟨rfl, ⟨rfl, ⟨rfl, trivial⟩⟩⟩⟩⟩⟩⟩⟩)))) (fun s11 => (s_doneN (s := ((s4.1 ++ [(x5.1, x5.2)]), s11)) ⟨rfl, ⟨rfl, ⟨rfl, ⟨rfl, ⟨rfl, ⟨rfl, ⟨rfl, ⟨rfl, trivial⟩⟩⟩⟩⟩⟩⟩⟩))))) (s_nil (s_doneN (s := (s4.1, s4.2)) ⟨rfl, ⟨rfl, ⟨rfl, ⟨rfl, ⟨rfl, ⟨rfl, ⟨rfl, ⟨rfl, trivial⟩⟩⟩⟩⟩⟩⟩⟩)))) (fun s10 => (s_done (s := (s10.1, s10.2)) ⟨rfl, ⟨rfl, ⟨rfl, ⟨rfl, ⟨rfl, trivial⟩⟩⟩⟩⟩))))))) (fun s4 => (s_end (s_retF (n_tupL (sl_ref (e := (eT2 CV.int CV.int)) (i := 4) (n := 1) (xs := s4.1))))))))))))) : Ss [some (CV.str a_name), some (eC_Band a_band), none, none, none, none, none, none, none, none, none] [] (b_on_band_rows F_Band_places F_squares F_figure_places) _ (postF (eTs (eT2 CV.int CV.int)))).eqN (by first | rfl | (unfold n_on_band_rows; simp only [An.ok_bind, An.ok_bD]; done) | (unfold n_on_band_rows; simp only [An.ok_bind, An.ok_bD]; rfl))) hp
def F__law_flat : Fn := loc (fnM 3 b__law_flat)
def n__law_flat (a_rows : (List (List (Int × Int)))) : An (List (Int × Int)) := ((forF (fun (s1 : (List (Int × Int))) (x2 : (List (Int × Int))) => ((okL (s1 ++ x2)).bind fun v3 => .ok v3 : An (List (Int × Int)))) ([] : List (Int × Int)) a_rows).bind fun s1 => .ok s1)
theorem t__law_flat (a_rows : (List (List (Int × Int)))) (hp : Hc) : Gi (n__law_flat a_rows) (Is (eLs (eT2 CV.int CV.int))) hp (F__law_flat [(eLs (eLs (eT2 CV.int CV.int))) a_rows] hp) := fn_loc (n := 3) (args := [(eLs (eLs (eT2 CV.int CV.int))) a_rows]) (l_cons (Fz.lim (e := (eLs (eLs (eT2 CV.int CV.int)))) _) rfl) (show Ss [some ((eLs (eLs (eT2 CV.int CV.int))) a_rows), none, none] [] b__law_flat (n__law_flat a_rows) (postF (eLs (eT2 CV.int CV.int))) from ((s_asgP (n_lstS (e := (eT2 CV.int CV.int)) al_nil) tg_nm (s_forF (st := (fun (s1 : (List (Int × Int))) => ([some ((eLs (eLs (eT2 CV.int CV.int))) a_rows), some ((eLs (eT2 CV.int CV.int)) s1), none], []))) (s0 := ([] : List (Int × Int))) (i_seq (x_ls (n_var (i := 0) (enc := (eLs (eLs (eT2 CV.int CV.int)))) (a := a_rows)))) ⟨rfl, ⟨rfl, trivial⟩⟩ rfl (fun (s1 : (List (Int × Int))) (x2 : (List (Int × Int))) => tg_nm) (fun (s1 : (List (Int × Int))) (x2 : (List (Int × Int))) => (s_end (s_asg (n_catL (e := (eT2 CV.int CV.int)) (n_var (i := 1) (enc := (eLs (eT2 CV.int CV.int))) (a := s1)) (n_var (i := 2) (enc := (eLs (eT2 CV.int CV.int))) (a := x2))) (fun v3 => tg_nm) (fun v3 => (s_done (s := v3) ⟨rfl, ⟨rfl, trivial⟩⟩))))) (fun s1 => (s_end (s_retF (n_var (i := 1) (enc := (eLs (eT2 CV.int CV.int))) (a := s1))))))) : Ss [some ((eLs (eLs (eT2 CV.int CV.int))) a_rows), none, none] [] b__law_flat _ (postF (eLs (eT2 CV.int CV.int)))).eqN (by first | rfl | (unfold n__law_flat; simp only [An.ok_bind, An.ok_bD]; done) | (unfold n__law_flat; simp only [An.ok_bind, An.ok_bD]; rfl))) hp
def F_between : Fn := loc (fnM 13 (b_between F_Band_places F_squares F_figure_places F_within))
def n_between (a_name : (List Nat)) (a_band : C_Band) : An (List (Int × Int)) := ((n_Band_places a_band).bind fun v2 => ((dcA (fun (x1 : (Int × Int)) => (An.ok true)) (fun (x1 : (Int × Int)) => (An.ok x1)) (fun (x1 : (Int × Int)) => (An.ok true)) [] v2).bind okD)).bind fun v3 => (n_squares.bind fun v15 => (forF (fun (s4 : ((List (Int × Int)) × (List ((Int × Int) × Bool)))) (x5 : (Int × Int)) => (((n_figure_places a_name).bind fun v7 => okL (v7.map fun (x6 : (Int × Int)) => ((x5.1 + x6.1), (x5.2 + x6.2)))).bind fun v8 => (((anyA true (fun (x9 : (Int × Int)) => (An.ok true)) (fun (x9 : (Int × Int)) => ((n_within x9.1 x9.2).bind fun v10 => cond v10 (An.ok ((ngB true (nlook (x9.1, x9.2) v3).isSome) && (ngB true (nlook (x9.1, x9.2) s4.2).isSome))) (.ok false))) v8).bind fun v14 => cond v14 (grd (okA s4.1.length) (((forF (fun (s12 : (List ((Int × Int) × Bool))) (x13 : (Int × Int)) => (grd (okA s12.length) (.ok (nput x13 true s12)) : An (List ((Int × Int) × Bool)))) s4.2 v8).bind fun s12 => .ok ((s4.1 ++ [(x5.1, x5.2)]), s12)))) (.ok (s4.1, s4.2))) : An ((List (Int × Int)) × (List ((Int × Int) × Bool)))).bind fun s11 => .ok (s11.1, s11.2) : An ((List (Int × Int)) × (List ((Int × Int) × Bool))))) (([] : (List (Int × Int))), ([] : (List ((Int × Int) × Bool)))) v15).bind fun s4 => .ok s4.1)
theorem t_between (a_name : (List Nat)) (a_band : C_Band) (hp : Hc) : Gi (n_between a_name a_band) (Is (eTs (eT2 CV.int CV.int))) hp (F_between [CV.str a_name, eC_Band a_band] hp) := fn_loc (n := 13) (args := [CV.str a_name, eC_Band a_band]) (l_cons (Fz.lim (e := CV.str) _) (l_cons (Fz.lim (e := eC_Band) _) rfl)) (show Ss [some (CV.str a_name), some (eC_Band a_band), none, none, none, none, none, none, none, none, none, none, none] [] (b_between F_Band_places F_squares F_figure_places F_within) (n_between a_name a_band) (postF (eTs (eT2 CV.int CV.int))) from ((s_tup (sa_cons (n_dcomp (ek := (eT2 CV.int CV.int)) (ev := CV.bl) (i_seq (x_ts (n_meth0P (n_var (i := 1) (enc := eC_Band) (a := a_band)) fun hp => t_Band_places a_band hp))) (fun (x1 : (Int × Int)) => tg_nm) (fun (x1 : (Int × Int)) => n_tTrue) (fun (x1 : (Int × Int)) => (n_var (i := 8) (enc := (eT2 CV.int CV.int)) (a := x1))) (fun (x1 : (Int × Int)) => (n_c (enc := CV.bl) (a := true)))) fun v3 => (sa_newD (sa_newL (sa_nil (tupK_ok (tg_tp (vs := [(eDt true (eT2 CV.int CV.int) CV.bl) v3, .ref 0, .ref 1]) (tgs_cons tg_nm (tgs_cons tg_nm (tgs_cons tg_nm tgs_nil)))) (s_forF (st := (fun (s4 : ((List (Int × Int)) × (List ((Int × Int) × Bool)))) => ([some (CV.str a_name), some (eC_Band a_band), some ((eDt true (eT2 CV.int CV.int) CV.bl) v3), some (.ref 0), some (.ref 1), none, none, none, none, none, none, none, none], [.dic true (s4.2.map (eKV (eT2 CV.int CV.int) CV.bl)), .lst (s4.1.map (eT2 CV.int CV.int))]))) (s0 := (([] : (List (Int × Int))), ([] : (List ((Int × Int) × Bool))))) (i_seq (x_ts (n_call0 fun hp => t_squares hp))) ⟨rfl, ⟨rfl, ⟨rfl, ⟨rfl, ⟨rfl, trivial⟩⟩⟩⟩⟩ rfl (fun (s4 : ((List (Int × Int)) × (List ((Int × Int) × Bool)))) (x5 : (Int × Int)) => (tg_tp (vs := [CV.int x5.1, CV.int x5.2]) (tgs_cons tg_nm (tgs_cons tg_nm tgs_nil)))) (fun (s4 : ((List (Int × Int)) × (List ((Int × Int) × Bool)))) (x5 : (Int × Int)) => (s_asg (n_compM (eb := (eT2 CV.int CV.int)) (i_seq (x_ts (n_call (av_consP (n_var (i := 0) (enc := CV.str) (a := a_name)) (av_nil fun fl t => t_figure_places a_name _))))) (fun (x6 : (Int × Int)) => (tg_tp (vs := [CV.int x6.1, CV.int x6.2]) (tgs_cons tg_nm (tgs_cons tg_nm tgs_nil)))) (fun (x6 : (Int × Int)) => (n_tup2 (n_e2P o_addI (n_var (i := 5) (enc := CV.int) (a := x5.1)) (n_var (i := 9) (enc := CV.int) (a := x6.1))) (n_e2P o_addI (n_var (i := 6) (enc := CV.int) (a := x5.2)) (n_var (i := 10) (enc := CV.int) (a := x6.2)))))) (fun v8 => tg_nm) (fun v8 => (s_end (s_join (st := (fun (s11 : ((List (Int × Int)) × (List ((Int × Int) × Bool)))) => ([some (CV.str a_name), some (eC_Band a_band), some ((eDt true (eT2 CV.int CV.int) CV.bl) v3), some (.ref 0), some (.ref 1), some (CV.int x5.1), some (CV.int x5.2), some ((eLs (eT2 CV.int CV.int)) v8), none, none, none, none, none], [.dic true (s11.2.map (eKV (eT2 CV.int CV.int) CV.bl)), .lst (s11.1.map (eT2 CV.int CV.int))]))) (s_end (s_if (n_tV (n_any (i_seq (x_ls (n_var (i := 7) (enc := (eLs (eT2 CV.int CV.int))) (a := v8)))) (fun (x9 : (Int × Int)) => (tg_tp (vs := [CV.int x9.1, CV.int x9.2]) (tgs_cons tg_nm (tgs_cons tg_nm tgs_nil)))) (fun (x9 : (Int × Int)) => n_tTrue) (fun (x9 : (Int × Int)) => (n_and (n_call (av_consP (n_var (i := 11) (enc := CV.int) (a := x9.1)) (av_consP (n_var (i := 12) (enc := CV.int) (a := x9.2)) (av_nil fun fl t => t_within x9.1 x9.2 _)))) (n_andP (n_e2P (o_inK (neg := true)) (n_tup2 (n_var (i := 11) (enc := CV.int) (a := x9.1)) (n_var (i := 12) (enc := CV.int) (a := x9.2))) (x_dct (n_var (i := 2) (enc := (eDt true (eT2 CV.int CV.int) CV.bl)) (a := v3)))) (n_e2P (o_inK (neg := true)) (n_tup2 (n_var (i := 11) (enc := CV.int) (a := x9.1)) (n_var (i := 12) (enc := CV.int) (a := x9.2))) (x_dref (t := true) (ek := (eT2 CV.int CV.int)) (ev := CV.bl) (i := 3) (n := 0) (kvs := s4.2)))))))) (s_assoc (s_appendP (e := (eT2 CV.int CV.int)) (i := 4) (n := 1) (xs := s4.1) (n_tup2 (n_var (i := 5) (enc := CV.int) (a := x5.1)) (n_var (i := 6) (enc := CV.int) (a := x5.2))) (s_forF (st := (fun (s12 : (List ((Int × Int) × Bool))) => ([some (CV.str a_name), some (eC_Band a_band), some ((eDt true (eT2 CV.int CV.int) CV.bl) v3), some (.ref 0), some (.ref 1), some (CV.int x5.1), some (CV.int x5.2), some ((eLs (eT2 CV.int CV.int)) v8), none, none, none, none, none], [.dic true (s12.map (eKV (eT2 CV.int CV.int) CV.bl)), .lst ((s4.1 ++ [(x5.1, x5.2)]).map (eT2 CV.int CV.int))]))) (s0 := s4.2) (i_seq (x_ls (n_var (i := 7) (enc := (eLs (eT2 CV.int CV.int))) (a := v8)))) ⟨rfl, ⟨rfl, ⟨rfl, ⟨rfl, ⟨rfl, ⟨rfl, ⟨rfl, ⟨rfl, trivial⟩⟩⟩⟩⟩⟩⟩⟩ rfl (fun (s12 : (List ((Int × Int) × Bool))) (x13 : (Int × Int)) => tg_nm) (fun (s12 : (List ((Int × Int) × Bool))) (x13 : (Int × Int)) => (s_end (s_dputP (t := true) (ek := (eT2 CV.int CV.int)) (ev := CV.bl) (i := 3) (n := 0) (kvs := s12) (n_c (enc := CV.bl) (a := true)) (n_var (i := 8) (enc := (eT2 CV.int CV.int)) (a := x13)) (s_done (s := (nput x13 true s12)) ⟨rfl, ⟨rfl, ⟨rfl, ⟨rfl, ⟨rfl, ⟨rfl, ⟨rfl, ⟨rfl, trivial⟩⟩⟩⟩⟩⟩⟩⟩)))) (fun s12 => (s_doneN (s := ((s4.1 ++ [(x5.1, x5.2)]), s12)) ⟨rfl, ⟨rfl, ⟨rfl, ⟨rfl, ⟨rfl, ⟨rfl, ⟨rfl, ⟨rfl, trivial⟩⟩⟩⟩⟩⟩⟩⟩))))) (s_nil (s_doneN (s := (s4.1, s4.2)) ⟨rfl, ⟨rfl, ⟨rfl, ⟨rfl, ⟨rfl, ⟨rfl, ⟨rfl, ⟨rfl, trivial⟩⟩⟩⟩⟩⟩⟩⟩)))) (fun s11 => (s_done (s := (s11.1, s11.2)) ⟨rfl, ⟨rfl, ⟨rfl, ⟨rfl, ⟨rfl, trivial⟩⟩⟩⟩⟩))))))) (fun s4 => (s_end (s_retF (n_tupL (sl_ref (e := (eT2 CV.int CV.int)) (i := 4) (n := 1) (xs := s4.1))))))))))))) : Ss [some (CV.str a_name), some (eC_Band a_band), none, none, none, none, none, none, none, none, none, none, none] [] (b_between F_Band_places F_squares F_figure_places F_within) _ (postF (eTs (eT2 CV.int CV.int)))).eqN (by first | rfl | (unfold n_between; simp only [An.ok_bind, An.ok_bD]; done) | (unfold n_between; simp only [An.ok_bind, An.ok_bD]; rfl))) hp
def F_figure_size : Fn := loc (fnM 1 (b_figure_size F_check_figure))
def n_figure_size (a_name : (List Nat)) : An (Int × Int) := (n_check_figure a_name).bind fun _u6 => (((An.opt (nlook a_name t_FIGURES)).bind fun v1 => An.ok (v1.length : Int)).bind fun v4 => (((An.opt (nlook a_name t_FIGURES)).bind fun v2 => An.opt (atI v2 (0 : Int))).bind fun v3 => grd (okLen v3.length) (.ok (v3.length : Int))).bind fun v5 => An.ok (v4, v5))
theorem t_figure_size (a_name : (List Nat)) (hp : Hc) : Gi (n_figure_size a_name) (Is (eT2 CV.int CV.int)) hp (F_figure_size [CV.str a_name] hp) := fn_loc (n := 1) (args := [CV.str a_name]) (l_cons (Fz.lim (e := CV.str) _) rfl) (show Ss [some (CV.str a_name)] [] (b_figure_size F_check_figure) (n_figure_size a_name) (postF (eT2 CV.int CV.int)) from ((s_exp (n_call (av_consP (n_var (i := 0) (enc := CV.str) (a := a_name)) (av_nil fun fl t => t_check_figure a_name _))) (fun _u6 => (s_end (s_retF (n_tup2 (n_len (x_sq (x_ws (n_getW (ev := (eWs CV.str)) (n_var (i := 0) (enc := CV.str) (a := a_name)) t_FIGURES)))) (n_lenS (n_ixS (x_sq (x_ws (n_getW (ev := (eWs CV.str)) (n_var (i := 0) (enc := CV.str) (a := a_name)) t_FIGURES))) (n_c (enc := CV.int) (a := 0))))))))) : Ss [some (CV.str a_name)] [] (b_figure_size F_check_figure) _ (postF (eT2 CV.int CV.int))).eqN (by first | rfl | (unfold n_figure_size; simp only [An.ok_bind, An.ok_bD]; done) | (unfold n_figure_size; simp only [An.ok_bind, An.ok_bD]; rfl))) hp
def F_sown : Fn := loc (fnM 11 (b_sown F_figure_size F_figure_places F_within))
def n_sown (a_name : (List Nat)) (a_apart : Int) : An (List (Int × Int)) := (n_figure_size a_name).bind fun v1 => cond ((decide (a_apart < (1 : Int))) || (decide ((6 : Int) < a_apart))) (.exc x_BadShape []) (((((rng3 (0 : Int) 14 (v1.1 + a_apart)).bind fun z => An.ok (enumL 0 z))).bind fun v12 => (forF (fun (s2 : (List ((Int × Int) × Bool))) (x3 : (Int × Int)) => (((rng3 (cond (decide ((x3.1 % (2 : Int)) = (1 : Int))) (-((v1.2 + a_apart) / (2 : Int))) (0 : Int)) 12 (v1.2 + a_apart)).bind fun v11 => (forF (fun (s4 : (List ((Int × Int) × Bool))) (x5 : Int) => (((n_figure_places a_name).bind fun v10 => (forF (fun (s6 : (List ((Int × Int) × Bool))) (x7 : (Int × Int)) => ((((n_within (x3.2 + x7.1) (x5 + x7.2)).bind fun v9 => cond v9 (grd (okA s6.length) (.ok (nput ((x3.2 + x7.1), (x5 + x7.2)) true s6))) (.ok s6)) : An (List ((Int × Int) × Bool))).bind fun s8 => .ok s8 : An (List ((Int × Int) × Bool)))) s4 v10).bind fun s6 => .ok s6) : An (List ((Int × Int) × Bool)))) s2 v11).bind fun s4 => .ok s4) : An (List ((Int × Int) × Bool)))) ([] : (List ((Int × Int) × Bool))) v12).bind fun s2 => (okL (sortB leP (s2.map Prod.fst)))))
theorem t_sown (a_name : (List Nat)) (a_apart : Int) (hp : Hc) : Gi (n_sown a_name a_apart) (Is (eTs (eT2 CV.int CV.int))) hp (F_sown [CV.str a_name, CV.int a_apart] hp) := fn_loc (n := 11) (args := [CV.str a_name, CV.int a_apart]) (l_cons (Fz.lim (e := CV.str) _) (l_cons (Fz.lim (e := CV.int) _) rfl)) (show Ss [some (CV.str a_name), some (CV.int a_apart), none, none, none, none, none, none, none, none, none] [] (b_sown F_figure_size F_figure_places F_within) (n_sown a_name a_apart) (postF (eTs (eT2 CV.int CV.int))) from ((s_asg (n_call (av_consP (n_var (i := 0) (enc := CV.str) (a := a_name)) (av_nil fun fl t => t_figure_size a_name _))) (fun v1 => (tg_tp (vs := [CV.int v1.1, CV.int v1.2]) (tgs_cons tg_nm (tgs_cons tg_nm tgs_nil)))) (fun v1 => (s_ifP (n_tOrP (n_tV (n_e2P o_lt (n_var (i := 1) (enc := CV.int) (a := a_apart)) (n_c (enc := CV.int) (a := 1)))) (n_tV (n_e2P o_gt (n_var (i := 1) (enc := CV.int) (a := a_apart)) (n_c (enc := CV.int) (a := 6))))) s_raise (s_nil (s_newD (s_forF (st := (fun (s2 : (List ((Int × Int) × Bool))) => ([some (CV.str a_name), some (CV.int a_apart), some (CV.int v1.1), some (CV.int v1.2), some (.ref 0), none, none, none, none, none, none], [.dic true (s2.map (eKV (eT2 CV.int CV.int) CV.bl))]))) (s0 := ([] : (List ((Int × Int) × Bool)))) (i_enR (n_c (enc := CV.int) (a := 0)) (n_c (v := c_HIGH) (enc := CV.int) (a := 14)) (n_e2P o_addI (n_var (i := 2) (enc := CV.int) (a := v1.1)) (n_var (i := 1) (enc := CV.int) (a := a_apart)))) ⟨rfl, ⟨rfl, ⟨rfl, ⟨rfl, ⟨rfl, trivial⟩⟩⟩⟩⟩ rfl (fun (s2 : (List ((Int × Int) × Bool))) (x3 : (Int × Int)) => (tg_tp (vs := [CV.int x3.1, CV.int x3.2]) (tgs_cons tg_nm (tgs_cons tg_nm tgs_nil)))) (fun (s2 : (List ((Int × Int) × Bool))) (x3 : (Int × Int)) => (s_asgP (n_ifP (n_tV (n_e2P o_eqI (n_modR (n_var (i := 5) (enc := CV.int) (a := x3.1))) (n_c (enc := CV.int) (a := 1)))) (n_neg (n_divR (n_e2P o_addI (n_var (i := 3) (enc := CV.int) (a := v1.2)) (n_var (i := 1) (enc := CV.int) (a := a_apart))))) (n_c (enc := CV.int) (a := 0))) tg_nm (s_end (s_forF (st := (fun (s4 : (List ((Int × Int) × Bool))) => ([some (CV.str a_name), some (CV.int a_apart), some (CV.int v1.1), some (CV.int v1.2), some (.ref 0), some (CV.int x3.1), some (CV.int x3.2), some (CV.int (cond (decide ((x3.1 % (2 : Int)) = (1 : Int))) (-((v1.2 + a_apart) / (2 : Int))) (0 : Int))), none, none, none], [.dic true (s4.map (eKV (eT2 CV.int CV.int) CV.bl))]))) (s0 := s2) (i_r3q (n_var (i := 7) (enc := CV.int) (a := (cond (decide ((x3.1 % (2 : Int)) = (1 : Int))) (-((v1.2 + a_apart) / (2 : Int))) (0 : Int)))) (n_c (v := c_WIDE) (enc := CV.int) (a := 12)) (n_e2P o_addI (n_var (i := 3) (enc := CV.int) (a := v1.2)) (n_var (i := 1) (enc := CV.int) (a := a_apart)))) ⟨rfl, ⟨rfl, ⟨rfl, ⟨rfl, ⟨rfl, ⟨rfl, ⟨rfl, ⟨rfl, trivial⟩⟩⟩⟩⟩⟩⟩⟩ rfl (fun (s4 : (List ((Int × Int) × Bool))) (x5 : Int) => tg_nm) (fun (s4 : (List ((Int × Int) × Bool))) (x5 : Int) => (s_end (s_forF (st := (fun (s6 : (List ((Int × Int) × Bool))) => ([some (CV.str a_name), some (CV.int a_apart), some (CV.int v1.1), some (CV.int v1.2), some (.ref 0), some (CV.int x3.1), some (CV.int x3.2), some (CV.int (cond (decide ((x3.1 % (2 : Int)) = (1 : Int))) (-((v1.2 + a_apart) / (2 : Int))) (0 : Int))), some (CV.int x5), none, none], [.dic true (s6.map (eKV (eT2 CV.int CV.int) CV.bl))]))) (s0 := s4) (i_seq (x_ts (n_call (av_consP (n_var (i := 0) (enc := CV.str) (a := a_name)) (av_nil fun fl t => t_figure_places a_name _))))) ⟨rfl, ⟨rfl, ⟨rfl, ⟨rfl, ⟨rfl, ⟨rfl, ⟨rfl, ⟨rfl, ⟨rfl, trivial⟩⟩⟩⟩⟩⟩⟩⟩⟩ rfl (fun (s6 : (List ((Int × Int) × Bool))) (x7 : (Int × Int)) => (tg_tp (vs := [CV.int x7.1, CV.int x7.2]) (tgs_cons tg_nm (tgs_cons tg_nm tgs_nil)))) (fun (s6 : (List ((Int × Int) × Bool))) (x7 : (Int × Int)) => (s_end (s_join (st := (fun (s8 : (List ((Int × Int) × Bool))) => ([some (CV.str a_name), some (CV.int a_apart), some (CV.int v1.1), some (CV.int v1.2), some (.ref 0), some (CV.int x3.1), some (CV.int x3.2), some (CV.int (cond (decide ((x3.1 % (2 : Int)) = (1 : Int))) (-((v1.2 + a_apart) / (2 : Int))) (0 : Int))), some (CV.int x5), some (CV.int x7.1), some (CV.int x7.2)], [.dic true (s8.map (eKV (eT2 CV.int CV.int) CV.bl))]))) (s_end (s_if (n_tV (n_call (av_consP (n_e2P o_addI (n_var (i := 6) (enc := CV.int) (a := x3.2)) (n_var (i := 9) (enc := CV.int) (a := x7.1))) (av_consP (n_e2P o_addI (n_var (i := 8) (enc := CV.int) (a := x5)) (n_var (i := 10) (enc := CV.int) (a := x7.2))) (av_nil fun fl t => t_within (x3.2 + x7.1) (x5 + x7.2) _))))) (s_dputP (t := true) (ek := (eT2 CV.int CV.int)) (ev := CV.bl) (i := 4) (n := 0) (kvs := s6) (n_c (enc := CV.bl) (a := true)) (n_tup2 (n_e2P o_addI (n_var (i := 6) (enc := CV.int) (a := x3.2)) (n_var (i := 9) (enc := CV.int) (a := x7.1))) (n_e2P o_addI (n_var (i := 8) (enc := CV.int) (a := x5)) (n_var (i := 10) (enc := CV.int) (a := x7.2)))) (s_doneN (s := (nput ((x3.2 + x7.1), (x5 + x7.2)) true s6)) ⟨rfl, ⟨rfl, ⟨rfl, ⟨rfl, ⟨rfl, ⟨rfl, ⟨rfl, ⟨rfl, ⟨rfl, ⟨rfl, ⟨rfl, trivial⟩⟩⟩⟩⟩⟩⟩⟩⟩⟩⟩)) (s_nil (s_doneN (s := s6) ⟨rfl, ⟨rfl, ⟨rfl, ⟨rfl, ⟨rfl, ⟨rfl, ⟨rfl, ⟨rfl, ⟨rfl, ⟨rfl, ⟨rfl, trivial⟩⟩⟩⟩⟩⟩⟩⟩⟩⟩⟩)))) (fun s8 => (s_done (s := s8) ⟨rfl, ⟨rfl, ⟨rfl, ⟨rfl, ⟨rfl, ⟨rfl, ⟨rfl, ⟨rfl, ⟨rfl, trivial⟩⟩⟩⟩⟩⟩⟩⟩⟩))))) (fun s6 => (s_done (s := s6) ⟨rfl, ⟨rfl, ⟨rfl, ⟨rfl, ⟨rfl, ⟨rfl, ⟨rfl, ⟨rfl, trivial⟩⟩⟩⟩⟩⟩⟩⟩))))) (fun s4 => (s_done (s := s4) ⟨rfl, ⟨rfl, ⟨rfl, ⟨rfl, ⟨rfl, trivial⟩⟩⟩⟩⟩)))))) (fun s2 => (s_end (s_retF (n_tupL (sl_ls (n_sortP (r_dq (x_dref (t := true) (ek := (eT2 CV.int CV.int)) (ev := CV.bl) (i := 4) (n := 0) (kvs := s2))))))))))))))) : Ss [some (CV.str a_name), some (CV.int a_apart), none, none, none, none, none, none, none, none, none] [] (b_sown F_figure_size F_figure_places F_within) _ (postF (eTs (eT2 CV.int CV.int)))).eqN (by first | rfl | (unfold n_sown; simp only [An.ok_bind, An.ok_bD]; done) | (unfold n_sown; simp only [An.ok_bind, An.ok_bD]; rfl))) hp
def F_law : Fn := fnM 14 (b_law F__law_rounds F__law_roll F_Band___init__ F_figure_places F_Band_places F_on_band_rows F__law_flat F_between F_within F_sown)
def n_seg0 (p_name : (List Nat)) (p_band : C_Band) (p_shape : (List (Int × Int))) : An (Lp Unit Bool) := (((n_Band_places p_band).bind fun v20 => okL (v20.map fun (x19 : (Int × Int)) => (x19, (1 : Int)))).bind fun v21 => okD (putA [] v21)).bind fun v22 => (((n_on_band_rows p_name p_band).bind fun v25 => ((compA (fun (x23 : (Int × Int)) => (An.ok true)) (fun (x23 : (Int × Int)) => (okL (p_shape.map fun (x24 : (Int × Int)) => ((x23.1 + x24.1), (x23.2 + x24.2))))) v25).bind okL)).bind fun v26 => n__law_flat v26).bind fun v27 => (((n_between p_name p_band).bind fun v30 => ((compA (fun (x28 : (Int × Int)) => (An.ok true)) (fun (x28 : (Int × Int)) => (okL (p_shape.map fun (x29 : (Int × Int)) => ((x28.1 + x29.1), (x28.2 + x29.2))))) v30).bind okL)).bind fun v31 => n__law_flat v31).bind fun v32 => (((okL ((v27.filter fun (x33 : (Int × Int)) => (ngB true (nlook x33 v22).isSome)).map fun (x33 : (Int × Int)) => x33)).bind fun v34 => eqP (eLs (eT2 CV.int CV.int)) true v34 ([] : List (Int × Int))).bind fun v49 => cond v49 (.ok (.rt false)) ((((((compA (fun (x35 : (Int × Int)) => (cond (ngB false (nlook x35 v22).isSome) (.ok true) ((n_within x35.1 x35.2).bind fun v36 => An.ok (!v36)))) (fun (x35 : (Int × Int)) => (An.ok x35)) v32).bind okL)).bind fun v37 => eqP (eLs (eT2 CV.int CV.int)) true v37 ([] : List (Int × Int))).bind fun v48 => cond v48 (.ok (.rt false)) ((((((okL (v27.map fun (x38 : (Int × Int)) => (x38, (1 : Int)))).bind fun v39 => okD (putA [] v39)).bind fun v40 => An.ok (v40.length : Int)).bind fun v41 => An.ok (!decide (v41 = (v27.length : Int)))).bind fun v47 => cond v47 (.ok (.rt false)) ((((((okL (v32.map fun (x42 : (Int × Int)) => (x42, (1 : Int)))).bind fun v43 => okD (putA [] v43)).bind fun v44 => An.ok (v44.length : Int)).bind fun v45 => An.ok (!decide (v45 = (v32.length : Int)))).bind fun v46 => cond v46 (.ok (.rt false)) (.ok (.nx ())))))))))
def n_seg1 (p_shape : (List (Int × Int))) (p_seeds : (List (Int × Int))) : An (Lp Unit Bool) := (((((compA (fun (x59 : (Int × Int)) => ((n_within x59.1 x59.2).bind fun v60 => An.ok (!v60))) (fun (x59 : (Int × Int)) => (An.ok x59)) p_seeds).bind okL)).bind fun v61 => eqP (eLs (eT2 CV.int CV.int)) true v61 ([] : List (Int × Int))).bind fun v65 => cond v65 (.ok (.rt false)) ((((((compA (fun (x62 : (Int × Int)) => (grd (EqV.can (eT2 CV.int CV.int) x62 && p_seeds.all (EqV.can (eT2 CV.int CV.int))) (.ok (ngB true (p_seeds.any fun z => EqV.eqb (eT2 CV.int CV.int) z x62))))) (fun (x62 : (Int × Int)) => (An.ok x62)) p_shape).bind okL)).bind fun v63 => eqP (eLs (eT2 CV.int CV.int)) true v63 ([] : List (Int × Int))).bind fun v64 => cond v64 (.ok (.rt false)) (.ok (.nx ())))))
def n_lawbody (a_dice : Dice) : An (Lp Unit Bool) := ((rollN a_dice (4 : Int)).bD fun v1 d2 => (An.opt (atI ([([114, 111, 117, 110, 100, 101, 108] : List Nat), ([98, 105, 108, 108, 101, 116] : List Nat), ([115, 116, 97, 114] : List Nat), ([112, 111, 105, 110, 116] : List Nat)] : List (List Nat)) v1)).bind fun z => .ok (z, d2)).bD fun v3 d4 => (((rollN d4 (4 : Int)).bD fun v5 d6 => (An.opt (atI ([([112, 97, 108, 101] : List Nat), ([102, 101, 115, 115] : List Nat), ([99, 104, 101, 118, 114, 111, 110] : List Nat), ([99, 104, 105, 101, 102] : List Nat)] : List (List Nat)) v5)).bind fun z => .ok (z, d6)).bD fun v7 d8 => ((An.ok ((2 : Int), d8)).bD fun v9 d10 => (rollN d10 (2 : Int)).bD fun v11 d12 => .ok ((v9 + v11), d12)).bD fun v13 d14 => (n_Band___init__ v7 ([111, 114] : List Nat) v13).bind fun z => .ok (z, d14)).bD fun v15 d16 => (n_figure_places v3).bind fun v17 => (n_seg0 v3 v15 v17).bind (lpK (fun (s18 : Unit) => (((An.ok ((1 : Int), d16)).bD fun v50 d51 => (rollN d51 (4 : Int)).bD fun v52 d53 => .ok ((v50 + v52), d53)).bD fun v54 d55 => (n_sown v3 v54).bind fun z => .ok (z, d55)).bD fun v56 d57 => (n_seg1 v17 v56).bind (lpK (fun (s58 : Unit) => .ok (.nx ())) Lp.rt)) Lp.rt)
theorem t_lawbody (a_dice : Dice) : Ss [none, some (.ref 0), none, none, none, none, none, none, none, none, none, none, none, none] [diceO a_dice] (b_lawbody F__law_roll F_Band___init__ F_figure_places F_Band_places F_on_band_rows F__law_flat F_between F_within F_sown) (n_lawbody a_dice) postH := ((s_asgD (d_ix (x_ls (n_lstS (al_cons (n_c (enc := CV.str) (a := [114, 111, 117, 110, 100, 101, 108])) (al_cons (n_c (enc := CV.str) (a := [98, 105, 108, 108, 101, 116])) (al_cons (n_c (enc := CV.str) (a := [115, 116, 97, 114])) (al_cons (n_c (enc := CV.str) (a := [112, 111, 105, 110, 116])) (al_nil (e := CV.str)))))))) (d_roll (n_c (enc := CV.int) (a := 4)))) (fun v3 => tg_nm) (fun v3 d4 => (s_tup (sa_consD (d_make (dv_cons (d_ix (x_ls (n_lstS (al_cons (n_c (enc := CV.str) (a := [112, 97, 108, 101])) (al_cons (n_c (enc := CV.str) (a := [102, 101, 115, 115])) (al_cons (n_c (enc := CV.str) (a := [99, 104, 101, 118, 114, 111, 110])) (al_cons (n_c (enc := CV.str) (a := [99, 104, 105, 101, 102])) (al_nil (e := CV.str)))))))) (d_roll (n_c (enc := CV.int) (a := 4)))) fun v7 d8 => (dv_consP (n_c (enc := CV.str) (a := [111, 114])) (dv_cons (d_e2 (fun _ => o_addI) (d_pure (n_c (enc := CV.int) (a := 2))) (fun v9 d10 => (d_roll (n_c (enc := CV.int) (a := 2))))) fun v13 d14 => (dv_nil (gd_mk fun hp => t_Band___init__ v7 ([111, 114] : List Nat) v13 hp)))))) fun v15 d16 => (sa_cons (n_call (av_consP (n_var (i := 2) (enc := CV.str) (a := v3)) (av_nil fun fl t => t_figure_places v3 _))) fun v17 => (sa_nil (tupK_ok (tg_tp (vs := [eC_Band v15, (eTs (eT2 CV.int CV.int)) v17]) (tgs_cons tg_nm (tgs_cons tg_nm tgs_nil))) (grp7 (s_joinRK (st := (fun (s18 : Unit) => ([none, some (.ref 0), some (CV.str v3), some (eC_Band v15), some ((eTs (eT2 CV.int CV.int)) v17), none, none, none, none, none, none, none, none, none], [diceO d16]))) (A := (fun (_ : Bool) (_ : CV) (_ : Hc) => True)) (kr := Lp.rt) (s_asg (n_dict (ek := (eT2 CV.int CV.int)) (ev := CV.int) (n_compM (eb := (eT2 (eT2 CV.int CV.int) CV.int)) (i_seq (x_ts (n_meth0P (n_var (i := 3) (enc := eC_Band) (a := v15)) fun hp => t_Band_places v15 hp))) (fun (x19 : (Int × Int)) => tg_nm) (fun (x19 : (Int × Int)) => (n_tup2 (n_var (i := 9) (enc := (eT2 CV.int CV.int)) (a := x19)) (n_c (enc := CV.int) (a := 1)))))) (fun v22 => tg_nm) (fun v22 => (s_asg (n_call (av_cons (n_comp (eb := (eLs (eT2 CV.int CV.int))) (i_seq (x_ts (n_call (av_consP (n_var (i := 2) (enc := CV.str) (a := v3)) (av_consP (n_var (i := 3) (enc := eC_Band) (a := v15)) (av_nil fun fl t => t_on_band_rows v3 v15 _)))))) (fun (x23 : (Int × Int)) => (tg_tp (vs := [CV.int x23.1, CV.int x23.2]) (tgs_cons tg_nm (tgs_cons tg_nm tgs_nil)))) (fun (x23 : (Int × Int)) => n_tTrue) (fun (x23 : (Int × Int)) => (n_compM (eb := (eT2 CV.int CV.int)) (i_seq (x_ts (n_var (i := 4) (enc := (eTs (eT2 CV.int CV.int))) (a := v17)))) (fun (x24 : (Int × Int)) => (tg_tp (vs := [CV.int x24.1, CV.int x24.2]) (tgs_cons tg_nm (tgs_cons tg_nm tgs_nil)))) (fun (x24 : (Int × Int)) => (n_tup2 (n_e2P o_addI (n_var (i := 10) (enc := CV.int) (a := x23.1)) (n_var (i := 12) (enc := CV.int) (a := x24.1))) (n_e2P o_addI (n_var (i := 11) (enc := CV.int) (a := x23.2)) (n_var (i := 13) (enc := CV.int) (a := x24.2)))))))) fun v26 => (av_nil fun fl t => t__law_flat v26 _))) (fun v27 => tg_nm) (fun v27 => (s_asg (n_call (av_cons (n_comp (eb := (eLs (eT2 CV.int CV.int))) (i_seq (x_ts (n_call (av_consP (n_var (i := 2) (enc := CV.str) (a := v3)) (av_consP (n_var (i := 3) (enc := eC_Band) (a := v15)) (av_nil fun fl t => t_between v3 v15 _)))))) (fun (x28 : (Int × Int)) => (tg_tp (vs := [CV.int x28.1, CV.int x28.2]) (tgs_cons tg_nm (tgs_cons tg_nm tgs_nil)))) (fun (x28 : (Int × Int)) => n_tTrue) (fun (x28 : (Int × Int)) => (n_compM (eb := (eT2 CV.int CV.int)) (i_seq (x_ts (n_var (i := 4) (enc := (eTs (eT2 CV.int CV.int))) (a := v17)))) (fun (x29 : (Int × Int)) => (tg_tp (vs := [CV.int x29.1, CV.int x29.2]) (tgs_cons tg_nm (tgs_cons tg_nm tgs_nil)))) (fun (x29 : (Int × Int)) => (n_tup2 (n_e2P o_addI (n_var (i := 10) (enc := CV.int) (a := x28.1)) (n_var (i := 12) (enc := CV.int) (a := x29.1))) (n_e2P o_addI (n_var (i := 11) (enc := CV.int) (a := x28.2)) (n_var (i := 13) (enc := CV.int) (a := x29.2)))))))) fun v31 => (av_nil fun fl t => t__law_flat v31 _))) (fun v32 => tg_nm) (fun v32 => (s_if (n_tV (n_e2 (o_eqD (e := (eLs (eT2 CV.int CV.int)))) (n_compP (eb := (eT2 CV.int CV.int)) (i_seq (x_ls (n_var (i := 6) (enc := (eLs (eT2 CV.int CV.int))) (a := v27)))) (fun (x33 : (Int × Int)) => tg_nm) (fun (x33 : (Int × Int)) => (n_tV (n_e2P (o_inK (neg := true)) (n_var (i := 9) (enc := (eT2 CV.int CV.int)) (a := x33)) (x_dct (n_var (i := 5) (enc := (eDt true (eT2 CV.int CV.int) CV.int)) (a := v22)))))) (fun (x33 : (Int × Int)) => (n_var (i := 9) (enc := (eT2 CV.int CV.int)) (a := x33)))) (n_lstS (e := (eT2 CV.int CV.int)) al_nil))) (s_retA (g := id) (n_c (enc := CV.bl) (a := false)) fun _ => trivial) (s_nil (s_if (n_tV (n_e2 (o_eqD (e := (eLs (eT2 CV.int CV.int)))) (n_comp (eb := (eT2 CV.int CV.int)) (i_seq (x_ls (n_var (i := 7) (enc := (eLs (eT2 CV.int CV.int))) (a := v32)))) (fun (x35 : (Int × Int)) => tg_nm) (fun (x35 : (Int × Int)) => (n_tOr (n_tV (n_e2P (o_inK (neg := false)) (n_var (i := 9) (enc := (eT2 CV.int CV.int)) (a := x35)) (x_dct (n_var (i := 5) (enc := (eDt true (eT2 CV.int CV.int) CV.int)) (a := v22))))) (n_tNot (n_tV (n_call (av_consP (n_ixC (enc' := CV.int) (g := fun (a : (Int × Int)) => a.1) (n_var (i := 9) (enc := (eT2 CV.int CV.int)) (a := x35))) (av_consP (n_ixC (enc' := CV.int) (g := fun (a : (Int × Int)) => a.2) (n_var (i := 9) (enc := (eT2 CV.int CV.int)) (a := x35))) (av_nil fun fl t => t_within x35.1 x35.2 _)))))))) (fun (x35 : (Int × Int)) => (n_var (i := 9) (enc := (eT2 CV.int CV.int)) (a := x35)))) (n_lstS (e := (eT2 CV.int CV.int)) al_nil))) (s_retA (g := id) (n_c (enc := CV.bl) (a := false)) fun _ => trivial) (s_nil (s_if (n_tV (n_e2 o_neI (n_lenD (x_dct (n_dict (ek := (eT2 CV.int CV.int)) (ev := CV.int) (n_compM (eb := (eT2 (eT2 CV.int CV.int) CV.int)) (i_seq (x_ls (n_var (i := 6) (enc := (eLs (eT2 CV.int CV.int))) (a := v27)))) (fun (x38 : (Int × Int)) => tg_nm) (fun (x38 : (Int × Int)) => (n_tup2 (n_var (i := 9) (enc := (eT2 CV.int CV.int)) (a := x38)) (n_c (enc := CV.int) (a := 1)))))))) (n_len (x_sq (x_ls (n_var (i := 6) (enc := (eLs (eT2 CV.int CV.int))) (a := v27))))))) (s_retA (g := id) (n_c (enc := CV.bl) (a := false)) fun _ => trivial) (s_nil (s_end (s_if (n_tV (n_e2 o_neI (n_lenD (x_dct (n_dict (ek := (eT2 CV.int CV.int)) (ev := CV.int) (n_compM (eb := (eT2 (eT2 CV.int CV.int) CV.int)) (i_seq (x_ls (n_var (i := 7) (enc := (eLs (eT2 CV.int CV.int))) (a := v32)))) (fun (x42 : (Int × Int)) => tg_nm) (fun (x42 : (Int × Int)) => (n_tup2 (n_var (i := 9) (enc := (eT2 CV.int CV.int)) (a := x42)) (n_c (enc := CV.int) (a := 1)))))))) (n_len (x_sq (x_ls (n_var (i := 7) (enc := (eLs (eT2 CV.int CV.int))) (a := v32))))))) (s_retA (g := id) (n_c (enc := CV.bl) (a := false)) fun _ => trivial) (s_nil (s_doneJ (s := ()) ⟨rfl, ⟨rfl, ⟨rfl, ⟨rfl, trivial⟩⟩⟩⟩)))))))))))))))) (fun s18 => (s_asgD (d_call (dv_consP (n_var (i := 2) (enc := CV.str) (a := v3)) (dv_cons (d_e2 (fun _ => o_addI) (d_pure (n_c (enc := CV.int) (a := 1))) (fun v50 d51 => (d_roll (n_c (enc := CV.int) (a := 4))))) fun v54 d55 => (dv_nil (gd_fn fun hp => t_sown v3 v54 hp))))) (fun v56 => tg_nm) (fun v56 d57 => (s_end (s_joinRK (st := (fun (s58 : Unit) => ([none, some (.ref 0), some (CV.str v3), some (eC_Band v15), some ((eTs (eT2 CV.int CV.int)) v17), none, none, none, some ((eTs (eT2 CV.int CV.int)) v56), none, none, none, none, none], [diceO d57]))) (A := (fun (_ : Bool) (_ : CV) (_ : Hc) => True)) (kr := Lp.rt) (s_if (n_tV (n_e2 (o_eqD (e := (eLs (eT2 CV.int CV.int)))) (n_comp (eb := (eT2 CV.int CV.int)) (i_seq (x_ts (n_var (i := 8) (enc := (eTs (eT2 CV.int CV.int))) (a := v56)))) (fun (x59 : (Int × Int)) => tg_nm) (fun (x59 : (Int × Int)) => (n_tNot (n_tV (n_call (av_consP (n_ixC (enc' := CV.int) (g := fun (a : (Int × Int)) => a.1) (n_var (i := 9) (enc := (eT2 CV.int CV.int)) (a := x59))) (av_consP (n_ixC (enc' := CV.int) (g := fun (a : (Int × Int)) => a.2) (n_var (i := 9) (enc := (eT2 CV.int CV.int)) (a := x59))) (av_nil fun fl t => t_within x59.1 x59.2 _))))))) (fun (x59 : (Int × Int)) => (n_var (i := 9) (enc := (eT2 CV.int CV.int)) (a := x59)))) (n_lstS (e := (eT2 CV.int CV.int)) al_nil))) (s_retA (g := id) (n_c (enc := CV.bl) (a := false)) fun _ => trivial) (s_nil (s_end (s_if (n_tV (n_e2 (o_eqD (e := (eLs (eT2 CV.int CV.int)))) (n_comp (eb := (eT2 CV.int CV.int)) (i_seq (x_ts (n_var (i := 4) (enc := (eTs (eT2 CV.int CV.int))) (a := v17)))) (fun (x62 : (Int × Int)) => tg_nm) (fun (x62 : (Int × Int)) => (n_tV (n_e2 (o_inD (e := (eT2 CV.int CV.int)) (neg := true)) (n_var (i := 9) (enc := (eT2 CV.int CV.int)) (a := x62)) (x_sq (x_ts (n_var (i := 8) (enc := (eTs (eT2 CV.int CV.int))) (a := v56))))))) (fun (x62 : (Int × Int)) => (n_var (i := 9) (enc := (eT2 CV.int CV.int)) (a := x62)))) (n_lstS (e := (eT2 CV.int CV.int)) al_nil))) (s_retA (g := id) (n_c (enc := CV.bl) (a := false)) fun _ => trivial) (s_nil (s_doneJ (s := ()) ⟨rfl, ⟨rfl, ⟨rfl, ⟨rfl, ⟨rfl, trivial⟩⟩⟩⟩⟩)))))) (fun s58 => s_doneH))))))))))))))) : Ss [none, some (.ref 0), none, none, none, none, none, none, none, none, none, none, none, none] [diceO a_dice] (b_lawbody F__law_roll F_Band___init__ F_figure_places F_Band_places F_on_band_rows F__law_flat F_between F_within F_sown) _ postH).eqN (by first | rfl | (unfold n_lawbody n_seg0 n_seg1; simp only [An.ok_bind, An.ok_bD]; done) | (unfold n_lawbody n_seg0 n_seg1; simp only [An.ok_bind, An.ok_bD]; rfl))
theorem law_ok (hn : ∀ d, n_lawbody d = .ok (.nx ())) (ns : List Int) : ∃ hp', F_law [.lst (ns.map .int)] ⟨0, []⟩ = .ok (.bl true) hp' := law_frameH (n := 12) (body := (b_lawbody F__law_roll F_Band___init__ F_figure_places F_Band_places F_on_band_rows F__law_flat F_between F_within F_sown)) rounds_begin t_lawbody hn ns
section
variable {P : Program} {w : World} {K : PySem.W.Frag} {mg : Str → Option Value} {base : Heap} {Γ : Gx}
theorem ok_law (hK : Γ.K = K) (fx : Fx K w mg Γ) (gd : ∀ q ∈ tn, GxD K mg base Γ q.1 q.2) {f : Addr} {fd : FuncData} (F : FunD K "law" "law" (defArgs s_law) (defBody s_law) (defScope s_law) [] [] f fd) (hm : mg "law" = some (.ref f)) : FnOk P w K mg base (L2.CX P w) 14 f fd ["script"] (spF Γ 1 F_law) := by
  have H__law_dice : Kn P w K mg base Γ 2 "_law_dice" 1 F__law_dice := (k__law_dice (k := 0) hK fx ).imp dice_is
  have H__law_roll : Kn P w K mg base Γ 2 "_law_roll" 2 F__law_roll := (k__law_roll (k := 0) hK fx ).imp roll_is
  have H__law_rounds : Kn P w K mg base Γ 4 "_law_rounds" 2 F__law_rounds := (k__law_rounds (k := 2) hK fx (H__law_dice.mono (by decide)))
  have H_check_colour : Kn P w K mg base Γ 2 "check_colour" 1 F_check_colour := (k_check_colour (k := 0) hK fx ).loc
  have H_within : Kn P w K mg base Γ 2 "within" 2 F_within := (k_within (k := 0) hK fx ).loc
  have H_is_border : Kn P w K mg base Γ 4 "is_border" 3 F_is_border := (k_is_border (k := 2) hK fx (H_within.mono (by decide))).loc
  have H_on_band_0 : Kn P w K mg base Γ 0 "on_band" 4 F_on_band_0 := fx.d_on_band.stuck
  have H_on_band_1 : Kn P w K mg base Γ 6 "on_band" 4 F_on_band_1 := (k_on_band (k := 4) hK fx (H_on_band_0.mono (by decide)) (H_is_border.mono (by decide))).loc
  have H_on_band_2 : Kn P w K mg base Γ 8 "on_band" 4 F_on_band_2 := (k_on_band (k := 6) hK fx (H_on_band_1.mono (by decide)) (H_is_border.mono (by decide))).loc
  have H_on_band : Kn P w K mg base Γ 8 "on_band" 4 F_on_band := H_on_band_2
  have H_Band___init__ : KnC P w K mg base Γ 10 "Band" 3 4 F_Band___init__ := (k_Band___init__ (k := 8) hK fx (H_check_colour.mono (by decide)) (H_on_band.mono (by decide)))
  have H_check_figure : Kn P w K mg base Γ 2 "check_figure" 1 F_check_figure := (k_check_figure (k := 0) hK fx ).loc
  have H_figure_places : Kn P w K mg base Γ 4 "figure_places" 1 F_figure_places := (k_figure_places (k := 2) hK fx (H_check_figure.mono (by decide))).loc
  have H_squares : Kn P w K mg base Γ 2 "squares" 0 F_squares := (k_squares (k := 0) hK fx ).loc
  have H_Band_places : KnM P w K mg base Γ 10 3 "places" 1 F_Band_places := (k_Band_places (k := 8) hK fx (H_squares.mono (by decide)) (H_on_band.mono (by decide))).loc
  have H_on_band_rows : Kn P w K mg base Γ 12 "on_band_rows" 2 F_on_band_rows := (k_on_band_rows (k := 10) hK fx (gd (("on_band_rows", none), "on_band_rows.<locals>.<genexpr>") (by unfold tn; exact List.mem_cons_self)) (H_Band_places.mono (by decide)) (H_squares.mono (by decide)) (H_figure_places.mono (by decide))).loc
  have H__law_flat : Kn P w K mg base Γ 2 "_law_flat" 1 F__law_flat := (k__law_flat (k := 0) hK fx ).loc
  have H_between : Kn P w K mg base Γ 12 "between" 2 F_between := (k_between (k := 10) hK fx (gd (("between", none), "between.<locals>.<genexpr>") (by unfold tn; exact List.mem_cons_of_mem _ (List.mem_cons_self))) (H_Band_places.mono (by decide)) (H_squares.mono (by decide)) (H_figure_places.mono (by decide)) (H_within.mono (by decide))).loc
  have H_figure_size : Kn P w K mg base Γ 4 "figure_size" 1 F_figure_size := (k_figure_size (k := 2) hK fx (H_check_figure.mono (by decide))).loc
  have H_sown : Kn P w K mg base Γ 6 "sown" 2 F_sown := (k_sown (k := 4) hK fx (H_figure_size.mono (by decide)) (H_figure_places.mono (by decide)) (H_within.mono (by decide))).loc
  exact o_law (k := 12) hK fx (H__law_rounds.mono (by decide)) (H__law_roll.mono (by decide)) (H_Band___init__.mono (by decide)) (H_figure_places.mono (by decide)) (H_Band_places.mono (by decide)) (H_on_band_rows.mono (by decide)) (H__law_flat.mono (by decide)) (H_between.mono (by decide)) (H_within.mono (by decide)) (H_sown.mono (by decide)) F hm
end
/-! ### the head's data -/
def dd__law_dice : He.DefD := ⟨("_law_dice", none), "_law_dice", "_law_dice", defArgs s__law_dice, defBody s__law_dice, defScope s__law_dice, [], []⟩
def dd__law_roll : He.DefD := ⟨("_law_roll", none), "_law_roll", "_law_roll", defArgs s__law_roll, defBody s__law_roll, defScope s__law_roll, [], []⟩
def dd__law_rounds : He.DefD := ⟨("_law_rounds", none), "_law_rounds", "_law_rounds", defArgs s__law_rounds, defBody s__law_rounds, defScope s__law_rounds, [], []⟩
def dd_check_colour : He.DefD := ⟨("check_colour", none), "check_colour", "check_colour", defArgs s_check_colour, defBody s_check_colour, defScope s_check_colour, [], []⟩
def dd_within : He.DefD := ⟨("within", none), "within", "within", defArgs s_within, defBody s_within, defScope s_within, [], []⟩
def dd_is_border : He.DefD := ⟨("is_border", none), "is_border", "is_border", defArgs s_is_border, defBody s_is_border, defScope s_is_border, [], []⟩
def dd_on_band : He.DefD := ⟨("on_band", none), "on_band", "on_band", defArgs s_on_band, defBody s_on_band, defScope s_on_band, [], []⟩
def dd_Band___init__ : He.DefD := ⟨("Band", some "__init__"), "__init__", "Band.__init__", defArgs s_Band___init__, defBody s_Band___init__, defScope s_Band___init__, [], []⟩
def dd_check_figure : He.DefD := ⟨("check_figure", none), "check_figure", "check_figure", defArgs s_check_figure, defBody s_check_figure, defScope s_check_figure, [], []⟩
def dd_figure_places : He.DefD := ⟨("figure_places", none), "figure_places", "figure_places", defArgs s_figure_places, defBody s_figure_places, defScope s_figure_places, [], []⟩
def dd_squares : He.DefD := ⟨("squares", none), "squares", "squares", defArgs s_squares, defBody s_squares, defScope s_squares, [], []⟩
def dd_Band_places : He.DefD := ⟨("Band", some "places"), "places", "Band.places", defArgs s_Band_places, defBody s_Band_places, defScope s_Band_places, [], []⟩
def dd_on_band_rows : He.DefD := ⟨("on_band_rows", none), "on_band_rows", "on_band_rows", defArgs s_on_band_rows, defBody s_on_band_rows, defScope s_on_band_rows, [], []⟩
def dd__law_flat : He.DefD := ⟨("_law_flat", none), "_law_flat", "_law_flat", defArgs s__law_flat, defBody s__law_flat, defScope s__law_flat, [], []⟩
def dd_between : He.DefD := ⟨("between", none), "between", "between", defArgs s_between, defBody s_between, defScope s_between, [], []⟩
def dd_figure_size : He.DefD := ⟨("figure_size", none), "figure_size", "figure_size", defArgs s_figure_size, defBody s_figure_size, defScope s_figure_size, [], []⟩
def dd_sown : He.DefD := ⟨("sown", none), "sown", "sown", defArgs s_sown, defBody s_sown, defScope s_sown, [], []⟩
def dd_law : He.DefD := ⟨("law", none), "law", "law", defArgs s_law, defBody s_law, defScope s_law, [], []⟩
def hfn : List He.DefD := [dd__law_dice, dd__law_roll, dd__law_rounds, dd_check_colour, dd_within, dd_is_border, dd_on_band, dd_Band___init__, dd_check_figure, dd_figure_places, dd_squares, dd_Band_places, dd_on_band_rows, dd__law_flat, dd_between, dd_figure_size, dd_sown, dd_law]
def hfa : List He.Fa := [.glo "_law_dice", .glo "_law_roll", .glo "_law_rounds", .glo "check_colour", .glo "within", .glo "is_border", .glo "on_band", .glo "Band", .mkr "Band", .glo "check_figure", .glo "figure_places", .glo "squares", .meth "Band" "places", .cls "Band", .glo "on_band_rows", .glo "_law_flat", .glo "between", .glo "figure_size", .glo "sown", .glo "law", .free "abs", .free "all", .free "dict", .free "enumerate", .free "int", .free "len", .free "range", .free "sorted", .free "tuple", .glo "BadColour", .exc "BadColour", .glo "BadShape", .exc "BadShape", .glo "LETTERS", .glo "FIGURES"]
def hts : List He.Tab := [(fun K => He.ga K "LETTERS", ["or", "argent", "gules", "azure", "sable", "vert", "purpure", "ermine", "vair"]), (fun K => He.ga K "FIGURES", ["roundel", "billet", "lozenge", "star", "crescent", "tower", "annulet", "point"])]
def hex (K : PySem.W.Frag) : Bool := gvB K "HIGH" c_HIGH && gvB K "NAMES" c_NAMES && gvB K "SPANS" c_SPANS && gvB K "WIDE" c_WIDE && wdB K (He.ga K "LETTERS") wt_LETTERS && wdB K (He.ga K "FIGURES") wt_FIGURES && clB K cN fN ftab && decide ((tf.map fun p => (He.cT K p).2).Nodup)
theorem facts {K : PySem.W.Frag} {w : World} {h : Heap} {mg : Str → Option Value} (X : K.In h) (G : h.Ns mainGlobals mg) (c : He.SaysT hfa hfn hts w K) (e : hex K = true) : Fx K w mg (Γof K) := by
  unfold hex at e
  simp only [Bool.and_eq_true] at e
  have d := c.d
  exact ⟨gv_wd (Γ := Γof K) (i := 1) (He.glo_ok X G (d.fact 34 (f := .glo "FIGURES") rfl)),
    gvB_ok rfl X G e.1.1.1.1.1.1.1,
    gv_wd (Γ := Γof K) (i := 0) (He.glo_ok X G (d.fact 33 (f := .glo "LETTERS") rfl)),
    gvB_ok rfl X G e.1.1.1.1.1.1.2,
    gvB_ok rfl X G e.1.1.1.1.1.2,
    gvB_ok rfl X G e.1.1.1.1.2,
    He.free_ok X G (d.fact 20 (f := .free "abs") rfl),
    He.free_ok X G (d.fact 21 (f := .free "all") rfl),
    He.free_ok X G (d.fact 22 (f := .free "dict") rfl),
    He.free_ok X G (d.fact 23 (f := .free "enumerate") rfl),
    He.free_ok X G (d.fact 24 (f := .free "int") rfl),
    He.free_ok X G (d.fact 25 (f := .free "len") rfl),
    He.free_ok X G (d.fact 26 (f := .free "range") rfl),
    He.free_ok X G (d.fact 27 (f := .free "sorted") rfl),
    He.free_ok X G (d.fact 28 (f := .free "tuple") rfl),
    ⟨fun i tab ei => by
      match i, ei with
      | 0, ei => cases ei; obtain ⟨es, n, kd⟩ := c.tab 0 rfl; exact ⟨es, n, kd, wdB_ok rfl kd e.1.1.1.2⟩
      | 1, ei => cases ei; obtain ⟨es, n, kd⟩ := c.tab 1 rfl; exact ⟨es, n, kd, wdB_ok rfl kd e.1.1.2⟩
      | _ + 2, ei => cases ei⟩,
    clT_of (cN := cN) (fN := fN) (by decide +kernel) rfl (fun _ => rfl) e.1.2,
    rfl,
    rfl,
    rfl,
    exF_of (Γ := Γof K) (c := 1) X G rfl (d.fact 29 (f := .glo "BadColour") rfl) (d.fact 30 (f := .exc "BadColour") rfl),
    exF_of (Γ := Γof K) (c := 2) X G rfl (d.fact 31 (f := .glo "BadShape") rfl) (d.fact 32 (f := .exc "BadShape") rfl),
    fnOf_ne (names := fN) (by decide +kernel) (by decide +kernel),
    defK_of (ps := ["cell"]) X G (d.def_ 0 (d := dd__law_dice) rfl) (d.fact 0 (f := .glo "_law_dice") rfl) rfl rfl rfl rfl (fun _ _ _ _ _ _ us hl => match us, hl with | [_], _ => by rfl),
    defK_of (ps := ["dice", "many"]) X G (d.def_ 1 (d := dd__law_roll) rfl) (d.fact 1 (f := .glo "_law_roll") rfl) rfl rfl rfl rfl (fun _ _ _ _ _ _ us hl => match us, hl with | [_, _], _ => by rfl),
    defK_of (ps := ["script", "most"]) X G (d.def_ 2 (d := dd__law_rounds) rfl) (d.fact 2 (f := .glo "_law_rounds") rfl) rfl rfl rfl rfl (fun _ _ _ _ _ _ us hl => match us, hl with | [_, _], _ => by rfl),
    defK_of (ps := ["name"]) X G (d.def_ 3 (d := dd_check_colour) rfl) (d.fact 3 (f := .glo "check_colour") rfl) rfl rfl rfl rfl (fun _ _ _ _ _ _ us hl => match us, hl with | [_], _ => by rfl),
    defK_of (ps := ["row", "column"]) X G (d.def_ 4 (d := dd_within) rfl) (d.fact 4 (f := .glo "within") rfl) rfl rfl rfl rfl (fun _ _ _ _ _ _ us hl => match us, hl with | [_, _], _ => by rfl),
    defK_of (ps := ["row", "column", "width"]) X G (d.def_ 5 (d := dd_is_border) rfl) (d.fact 5 (f := .glo "is_border") rfl) rfl rfl rfl rfl (fun _ _ _ _ _ _ us hl => match us, hl with | [_, _, _], _ => by rfl),
    defK_of (ps := ["name", "row", "column", "width"]) X G (d.def_ 6 (d := dd_on_band) rfl) (d.fact 6 (f := .glo "on_band") rfl) rfl rfl rfl rfl (fun _ _ _ _ _ _ us hl => match us, hl with | [_, _, _, _], _ => by rfl),
    defK_of (ps := ["name"]) X G (d.def_ 8 (d := dd_check_figure) rfl) (d.fact 9 (f := .glo "check_figure") rfl) rfl rfl rfl rfl (fun _ _ _ _ _ _ us hl => match us, hl with | [_], _ => by rfl),
    defK_of (ps := ["name"]) X G (d.def_ 9 (d := dd_figure_places) rfl) (d.fact 10 (f := .glo "figure_places") rfl) rfl rfl rfl rfl (fun _ _ _ _ _ _ us hl => match us, hl with | [_], _ => by rfl),
    defK_of (ps := []) X G (d.def_ 10 (d := dd_squares) rfl) (d.fact 11 (f := .glo "squares") rfl) rfl rfl rfl rfl (fun _ _ _ _ _ _ us hl => match us, hl with | [], _ => by rfl),
    defK_of (ps := ["name", "band"]) X G (d.def_ 12 (d := dd_on_band_rows) rfl) (d.fact 14 (f := .glo "on_band_rows") rfl) rfl rfl rfl rfl (fun _ _ _ _ _ _ us hl => match us, hl with | [_, _], _ => by rfl),
    defK_of (ps := ["rows"]) X G (d.def_ 13 (d := dd__law_flat) rfl) (d.fact 15 (f := .glo "_law_flat") rfl) rfl rfl rfl rfl (fun _ _ _ _ _ _ us hl => match us, hl with | [_], _ => by rfl),
    defK_of (ps := ["name", "band"]) X G (d.def_ 14 (d := dd_between) rfl) (d.fact 16 (f := .glo "between") rfl) rfl rfl rfl rfl (fun _ _ _ _ _ _ us hl => match us, hl with | [_, _], _ => by rfl),
    defK_of (ps := ["name"]) X G (d.def_ 15 (d := dd_figure_size) rfl) (d.fact 17 (f := .glo "figure_size") rfl) rfl rfl rfl rfl (fun _ _ _ _ _ _ us hl => match us, hl with | [_], _ => by rfl),
    defK_of (ps := ["name", "apart"]) X G (d.def_ 16 (d := dd_sown) rfl) (d.fact 18 (f := .glo "sown") rfl) rfl rfl rfl rfl (fun _ _ _ _ _ _ us hl => match us, hl with | [_, _], _ => by rfl),
    defK_of (ps := ["script"]) X G (d.def_ 17 (d := dd_law) rfl) (d.fact 19 (f := .glo "law") rfl) rfl rfl rfl rfl (fun _ _ _ _ _ _ us hl => match us, hl with | [_], _ => by rfl),
    methK_of (Γ := Γof K) (c := 3) (ps := ["self"]) (x := "Band") (m := "places") (d.def_ 11 (d := dd_Band_places) rfl) rfl (d.fact 12 (f := .meth "Band" "places") rfl) (d.fact 13 (f := .cls "Band") rfl) rfl rfl rfl rfl (fun _ _ _ _ _ _ us hl => match us, hl with | [_], _ => by rfl),
    initK_of (Γ := Γof K) (c := 3) (ps := ["self", "name", "colour", "width"]) (x := "Band") X G (d.def_ 7 (d := dd_Band___init__) rfl) rfl (d.fact 7 (f := .glo "Band") rfl) (d.fact 8 (f := .mkr "Band") rfl) rfl rfl rfl rfl (fun _ _ _ _ _ _ us hl => match us, hl with | [_, _, _, _], _ => by rfl)⟩
/-! ### the plain law -/
def nms : List (List Nat) := [[114, 111, 117, 110, 100, 101, 108], [98, 105, 108, 108, 101, 116], [115, 116, 97, 114], [112, 111, 105, 110, 116]]
def bds : List (List Nat) := [[112, 97, 108, 101], [102, 101, 115, 115], [99, 104, 101, 118, 114, 111, 110], [99, 104, 105, 101, 102]]
def chk0 (n b : List Nat) (w : Int) : Bool := (n_Band___init__ b [111, 114] w).isOk fun B => (n_figure_places n).isOk fun sh => (n_seg0 n B sh).isOk fun r => r.isNx fun _ => true
def chk1 (n : List Nat) (g : Int) : Bool := (n_figure_places n).isOk fun sh => (n_sown n g).isOk fun seeds => (n_seg1 sh seeds).isOk fun r => r.isNx fun _ => true
theorem c0_0_0 : ([0, 1].all fun w => chk0 (nms.getD 0 []) (bds.getD 0 []) (2 + w)) = true := by decide +kernel
theorem c0_0_1 : ([0, 1].all fun w => chk0 (nms.getD 0 []) (bds.getD 1 []) (2 + w)) = true := by decide +kernel
theorem c0_0_2 : ([0, 1].all fun w => chk0 (nms.getD 0 []) (bds.getD 2 []) (2 + w)) = true := by decide +kernel
theorem c0_0_3 : ([0, 1].all fun w => chk0 (nms.getD 0 []) (bds.getD 3 []) (2 + w)) = true := by decide +kernel
theorem c0_1_0 : ([0, 1].all fun w => chk0 (nms.getD 1 []) (bds.getD 0 []) (2 + w)) = true := by decide +kernel
theorem c0_1_1 : ([0, 1].all fun w => chk0 (nms.getD 1 []) (bds.getD 1 []) (2 + w)) = true := by decide +kernel
theorem c0_1_2 : ([0, 1].all fun w => chk0 (nms.getD 1 []) (bds.getD 2 []) (2 + w)) = true := by decide +kernel
theorem c0_1_3 : ([0, 1].all fun w => chk0 (nms.getD 1 []) (bds.getD 3 []) (2 + w)) = true := by decide +kernel
theorem c0_2_0 : ([0, 1].all fun w => chk0 (nms.getD 2 []) (bds.getD 0 []) (2 + w)) = true := by decide +kernel
theorem c0_2_1 : ([0, 1].all fun w => chk0 (nms.getD 2 []) (bds.getD 1 []) (2 + w)) = true := by decide +kernel
theorem c0_2_2 : ([0, 1].all fun w => chk0 (nms.getD 2 []) (bds.getD 2 []) (2 + w)) = true := by decide +kernel
theorem c0_2_3 : ([0, 1].all fun w => chk0 (nms.getD 2 []) (bds.getD 3 []) (2 + w)) = true := by decide +kernel
theorem c0_3_0 : ([0, 1].all fun w => chk0 (nms.getD 3 []) (bds.getD 0 []) (2 + w)) = true := by decide +kernel
theorem c0_3_1 : ([0, 1].all fun w => chk0 (nms.getD 3 []) (bds.getD 1 []) (2 + w)) = true := by decide +kernel
theorem c0_3_2 : ([0, 1].all fun w => chk0 (nms.getD 3 []) (bds.getD 2 []) (2 + w)) = true := by decide +kernel
theorem c0_3_3 : ([0, 1].all fun w => chk0 (nms.getD 3 []) (bds.getD 3 []) (2 + w)) = true := by decide +kernel
theorem c1_0_0 : chk1 (nms.getD 0 []) (1 + 0) = true := by decide +kernel
theorem c1_0_1 : chk1 (nms.getD 0 []) (1 + 1) = true := by decide +kernel
theorem c1_0_2 : chk1 (nms.getD 0 []) (1 + 2) = true := by decide +kernel
theorem c1_0_3 : chk1 (nms.getD 0 []) (1 + 3) = true := by decide +kernel
theorem c1_1_0 : chk1 (nms.getD 1 []) (1 + 0) = true := by decide +kernel
theorem c1_1_1 : chk1 (nms.getD 1 []) (1 + 1) = true := by decide +kernel
theorem c1_1_2 : chk1 (nms.getD 1 []) (1 + 2) = true := by decide +kernel
theorem c1_1_3 : chk1 (nms.getD 1 []) (1 + 3) = true := by decide +kernel
theorem c1_2_0 : chk1 (nms.getD 2 []) (1 + 0) = true := by decide +kernel
theorem c1_2_1 : chk1 (nms.getD 2 []) (1 + 1) = true := by decide +kernel
theorem c1_2_2 : chk1 (nms.getD 2 []) (1 + 2) = true := by decide +kernel
theorem c1_2_3 : chk1 (nms.getD 2 []) (1 + 3) = true := by decide +kernel
theorem c1_3_0 : chk1 (nms.getD 3 []) (1 + 0) = true := by decide +kernel
theorem c1_3_1 : chk1 (nms.getD 3 []) (1 + 1) = true := by decide +kernel
theorem c1_3_2 : chk1 (nms.getD 3 []) (1 + 2) = true := by decide +kernel
theorem c1_3_3 : chk1 (nms.getD 3 []) (1 + 3) = true := by decide +kernel
theorem c1 : (nms.all fun n => [0, 1, 2, 3].all fun g => chk1 n (1 + g)) = true := by
  have f : ∀ n ∈ nms, ([0, 1, 2, 3].all fun g => chk1 n (1 + g)) = true := by
    intro n hn
    refine List.all_eq_true.mpr fun g hg => ?_
    simp only [nms, List.mem_cons, List.not_mem_nil, or_false] at hn hg
    rcases hn with rfl | rfl | rfl | rfl <;> rcases hg with rfl | rfl | rfl | rfl
    · exact c1_0_0
    · exact c1_0_1
    · exact c1_0_2
    · exact c1_0_3
    · exact c1_1_0
    · exact c1_1_1
    · exact c1_1_2
    · exact c1_1_3
    · exact c1_2_0
    · exact c1_2_1
    · exact c1_2_2
    · exact c1_2_3
    · exact c1_3_0
    · exact c1_3_1
    · exact c1_3_2
    · exact c1_3_3
  exact List.all_eq_true.mpr f
theorem c0 : (nms.all fun n => bds.all fun b => [0, 1].all fun w => chk0 n b (2 + w)) = true := by
  have f : ∀ n ∈ nms, (bds.all fun b => [0, 1].all fun w => chk0 n b (2 + w)) = true := by
    intro n hn
    refine List.all_eq_true.mpr fun b hb => ?_
    simp only [nms, bds, List.mem_cons, List.not_mem_nil, or_false] at hn hb
    rcases hn with rfl | rfl | rfl | rfl <;> rcases hb with rfl | rfl | rfl | rfl
    · exact c0_0_0
    · exact c0_0_1
    · exact c0_0_2
    · exact c0_0_3
    · exact c0_1_0
    · exact c0_1_1
    · exact c0_1_2
    · exact c0_1_3
    · exact c0_2_0
    · exact c0_2_1
    · exact c0_2_2
    · exact c0_2_3
    · exact c0_3_0
    · exact c0_3_1
    · exact c0_3_2
    · exact c0_3_3
  exact List.all_eq_true.mpr f
theorem n_ok (d : Dice) : n_lawbody d = .ok (.nx ()) := by
  obtain ⟨r1, d1, e1, l1, u1⟩ := roll_at d (m := 4) (by decide)
  obtain ⟨r2, d2, e2, l2, u2⟩ := roll_at d1 (m := 4) (by decide)
  obtain ⟨r3, d3, e3, l3, u3⟩ := roll_at d2 (m := 2) (by decide)
  obtain ⟨r4, d4, e4, l4, u4⟩ := roll_at d3 (m := 4) (by decide)
  obtain ⟨n, hn, a1⟩ := roll_in (xs := nms) l1 (by simpa [nms] using u1)
  obtain ⟨b, hb, a2⟩ := roll_in (xs := bds) l2 (by simpa [bds] using u2)
  have h3 : r3 ∈ ([0, 1] : List Int) := by
    have : r3 = 0 ∨ r3 = 1 := by omega
    simpa using this
  have h4 : r4 ∈ ([0, 1, 2, 3] : List Int) := by
    have : r4 = 0 ∨ r4 = 1 ∨ r4 = 2 ∨ r4 = 3 := by omega
    simpa using this
  have k0 := List.all_eq_true.mp (List.all_eq_true.mp (List.all_eq_true.mp c0 n hn) b hb) r3 h3
  have k1 := List.all_eq_true.mp (List.all_eq_true.mp c1 n hn) r4 h4
  unfold chk0 at k0
  unfold chk1 at k1
  obtain ⟨B, q1, k0⟩ := An.of_isOk k0
  obtain ⟨sh, q2, k0⟩ := An.of_isOk k0
  obtain ⟨x0, q3, k0⟩ := An.of_isOk k0
  obtain ⟨_, rfl, _⟩ := Lp.of_isNx k0
  rw [q2] at k1
  obtain ⟨seeds, q4, k1⟩ := An.of_isOk (show (n_sown n (1 + r4)).isOk _ = true from k1)
  obtain ⟨x1, q5, k1⟩ := An.of_isOk k1
  obtain ⟨_, rfl, _⟩ := Lp.of_isNx k1
  unfold nms at a1
  unfold bds at a2
  unfold n_lawbody
  simp only [e1, e2, e3, e4, An.ok_bD, An.ok_bind, a1, a2, q1, q2, q3, q4, q5, lpK_nx]
abbrev R : PySem.W.OpenRow := PySem.W.OpenLaw.row PySem.Challenge.rw_blazonhall_k18_sown_and_between
abbrev hk : PySem.W.Hook := He.hookX 4 hfa hfn hts tf hex
def ob (s : PySem.W.SharedT) : He.AlX := He.obsX 4 hfa hfn hts tf hex (HandSHeadRun.getT s)
theorem ob_eq (s : PySem.W.SharedT) : ob s = hk.obs s.abs := He.obsX_eq (HandSHeadRun.getT_eq s)
def looseN : List PySem.Str := ["_wall", "BlazonFault", "BadColour", "BadShape", "LETTERS", "check_colour", "WIDE", "HIGH", "SPANS", "within", "squares", "NAMES", "on_band", "is_border", "Band", "FIGURES", "check_figure", "figure_places", "figure_size", "sown", "on_band_rows", "between", "_law_flat", "_law_dice", "_law_roll", "_law_rounds"]
theorem run (w : World) : HandSHeadRun.RunEq R (PySem.W.view R.prog [32]) hk ob 6000 looseN w := PySem.W.byRow2 "special-get-raises" (P := fun w => HandSHeadRun.RunEq R (PySem.W.view R.prog [32]) hk ob 6000 looseN w) (fun w => by intro os; kernel_rfl) (fun w => by intro os; kernel_rfl) w
end K18
open PySem PySem.W PySem.Calls PyProof.Rows
theorem PySem.Challenge.cw_blazonhall_k18_sown_and_between_holds : PySem.Challenge.rw_blazonhall_k18_sown_and_between.Holds := by
  w_on; o_law
  refine HandSHeadRun.head_any (r := K18.R) (q := view K18.R.prog [32]) (H := K18.hk) (ob := K18.ob) (M := 6000) (loose := K18.looseN) (d := HandSHeadRun.topDef K18.R.prog 32) (kwd := []) K18.ob_eq
    (by kernel_rfl) (fun s => by kernel_rfl) K18.run (by kernel_rfl) (by kernel_rfl) (by kernel_rfl) (by rfl) (by first | assumption | decide +kernel) (by decide +kernel) ⟨rfl, rfl, rfl, rfl, rfl, by decide +kernel⟩ ?hw ?hc
  case hw => w_witness2
  case hc =>
    refine Bl.law_walkT (l := PySem.Challenge.rw_blazonhall_k18_sown_and_between) (n := 63) (k := 14) (x := "script") rfl (by decide) (by kernel_rfl) ⟨rfl, by decide, by decide⟩ ?F
    intro w mg fa h Y G hmg0
    obtain ⟨K, KX, c⟩ := Y
    have hmg : mg ("law" : PySem.Str) = some (.ref fa) := by
      have e : (HandSHeadRun.topDef K18.R.prog 32).name = ("law" : PySem.Str) := by kernel_rfl
      rw [← e]
      exact hmg0
    have fx : K18.Fx K w mg (K18.Γof K) := K18.facts KX G c.t c.more
    obtain ⟨f, fd, h1, h2, _, h4⟩ := fx.d_law.ex
    have ef : f = fa := by
      have z := h2.symm.trans hmg
      exact PySem.Value.ref.inj (Option.some.inj z)
    subst ef
    have nd : (K18.tf.map fun p => (He.cT K p).2).Nodup := by
      have m := c.more
      unfold K18.hex at m
      simp only [Bool.and_eq_true] at m
      exact of_decide_eq_true m.2
    exact ⟨K, fd, K18.Γof K, K18.F_law, K18.tf.map (He.cT K), KX, rfl, Bl.end_map c.empty, Bl.end_map c.out, Bl.end_map (fun p hp => PySem.W.codeHd_of_K KX (c.hd p hp)), Bl.end_T rfl, fun s u => h4 s [u] rfl, K18.law_ok K18.n_ok, fun base _ _ tb => K18.ok_law (K := K) (Γ := K18.Γof K) rfl fx (Bl.gxd_all rfl rfl nd tb) h1 h2⟩
