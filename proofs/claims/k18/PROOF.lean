import PyProof.Rows.All
import Wide.All
import OpenK.AllK
import Wide.FinOn
import HandS.ForMost
import HandS.Deep
import HandS.Defaults
import HandS.MakeKwOnly
import HandS.MakeKw
import HandS.IsInst
import HandS.More
import HandS.WordsExc
import HandS.Head0
import HandS.Head1
import HandS.Head2
import HandS.HeadEnd
import HandS.HeadHook1
import HandS.HeadHook2
import HandS.HeadHook4
import HandS.SortInts
import PyProof.NeKinds
import HandS.OwnEq
import HandS.NoneIn
import PySem.Challenge.RW_spikehold_k18_states_of_a_network
set_option Elab.async false
set_option linter.all false
set_option maxRecDepth 100000
set_option maxHeartbeats 4000000
set_option autoImplicit false
/-! G1: heaps in two parts (B: what never changes, M: what is owned), slots, judgements. -/
namespace G
open PySem L2

/-! ### heaps -/
def Dj (A B : Hp) : Prop := ∀ a o, A a = some o → B a = none
def un (A B : Hp) : Hp := fun a => match A a with | some o => some o | none => B a
def emp : Hp := fun _ => none
def sing (a : Addr) (o : HO) : Hp := fun b => if b = a then some o else none
theorem un_emp (A : Hp) : un A emp = A := by
  funext a
  unfold un emp
  cases A a <;> rfl
theorem emp_un (A : Hp) : un emp A = A := rfl
theorem un_some {A B : Hp} {a : Addr} {o : HO} (h : un A B a = some o) : A a = some o ∨ (A a = none ∧ B a = some o) := by
  unfold un at h
  cases q : A a with
  | some u => rw [q] at h; exact .inl h
  | none => rw [q] at h; exact .inr ⟨rfl, h⟩
theorem un_l {A B : Hp} {a : Addr} {o : HO} (h : A a = some o) : un A B a = some o := by unfold un; rw [h]
theorem un_r {A B : Hp} {a : Addr} (h : A a = none) : un A B a = B a := by unfold un; rw [h]
theorem un_none {A B : Hp} {a : Addr} : un A B a = none ↔ A a = none ∧ B a = none := by
  unfold un
  cases q : A a with
  | some u => simp
  | none => simp
theorem same_un_l (A B : Hp) : Same A (un A B) := fun a o h => un_l h
theorem same_un_r {A B : Hp} (d : Dj A B) : Same B (un A B) := fun a o h => by
  cases q : A a with
  | some u => rw [d a u q] at h; cases h
  | none => rw [un_r q]; exact h
theorem un_assoc (A B C : Hp) : un (un A B) C = un A (un B C) := by
  funext a
  unfold un
  cases A a <;> rfl
theorem un_comm {A B : Hp} (d : Dj A B) : un A B = un B A := by
  funext a
  unfold un
  cases q : A a with
  | some u => rw [d a u q]
  | none => cases B a <;> rfl
theorem Dj.symm {A B : Hp} (d : Dj A B) : Dj B A := fun a o h => by
  cases q : A a with
  | some u => rw [d a u q] at h; cases h
  | none => rfl
theorem Dj.un_l {A B C : Hp} (d : Dj (un A B) C) : Dj A C := fun a o h => d a o (G.un_l h)
theorem Dj.un_r {A B C : Hp} (d : Dj (un A B) C) (e : Dj A B) : Dj B C := fun a o h => d a o (same_un_r e a o h)
theorem Dj.un {A B C : Hp} (d : Dj A C) (e : Dj B C) : Dj (G.un A B) C := fun a o h => by
  rcases un_some h with h | ⟨_, h⟩
  · exact d a o h
  · exact e a o h
theorem Dj.emp (A : Hp) : Dj emp A := fun _ _ h => nomatch h
theorem Dj.sub {A B C : Hp} (d : Dj A C) (h : Same B A) : Dj B C := fun a o q => d a o (h a o q)
theorem same_un {A B C : Hp} (h : Same A C) (k : Same B C) : Same (un A B) C := fun a o q => by
  rcases un_some q with q | ⟨_, q⟩
  · exact h a o q
  · exact k a o q
theorem same_mono {A B B' : Hp} (k : Same B B') (d : Dj A B') : Same (un A B) (un A B') := fun a o q => by
  rcases un_some q with q | ⟨n, q⟩
  · exact un_l q
  · rw [un_r n]; exact k a o q
theorem same_un' {A B A' B' : Hp} (h : Same A A') (k : Same B B') (d : Dj A' B') : Same (un A B) (un A' B') := fun a o q => by
  rcases un_some q with q | ⟨n, q⟩
  · exact un_l (h a o q)
  · exact same_un_r d a o (k a o q)
theorem sing_same {a : Addr} {o : HO} : sing a o a = some o := by unfold sing; rw [if_pos rfl]
theorem sing_ne {a b : Addr} {o : HO} (h : b ≠ a) : sing a o b = none := by unfold sing; rw [if_neg h]
theorem sing_some {a b : Addr} {o u : HO} (h : sing a o b = some u) : b = a ∧ u = o := by
  unfold sing at h
  split at h
  · exact ⟨by assumption, (Option.some.inj h).symm⟩
  · cases h
theorem same_upd {H : Hp} {p : Addr} {o : HO} (h : H p = none) : Same H (upd H p o) := fun a u e => by
  rw [upd_ne (ne_of_none e h)]
  exact e

/-- B and M lie in H, apart -/
structure In (B M H : Hp) : Prop where
  b : Same B H
  m : Same M H
  dj : Dj M B
/-- growth alone: what an expression that changes nothing does -/
structure Gr (B H B' H' : Hp) : Prop where
  bb : Same B B'
  hh : Same H H'
  bh : Same B' H'
  new : ∀ a o, H a = some o → B a = none → B' a = none
theorem Gr.refl {B H : Hp} (h : Same B H) : Gr B H B H := ⟨Same.refl _, Same.refl _, h, fun _ _ _ h => h⟩
theorem Gr.trans {B H B1 H1 B2 H2 : Hp} (p : Gr B H B1 H1) (q : Gr B1 H1 B2 H2) : Gr B H B2 H2 :=
  ⟨p.bb.trans q.bb, p.hh.trans q.hh, q.bh, fun a o h n => q.new a o (p.hh a o h) (p.new a o h n)⟩
theorem In.gr {B M H B' H' : Hp} (i : In B M H) (g : Gr B H B' H') : In B' M H' :=
  ⟨g.bh, i.m.trans g.hh, fun a o h => g.new a o (i.m a o h) (i.dj a o h)⟩
/-- the heap grows by objects that are not told of -/
theorem Gr.heap {B H H' : Hp} (b : Same B H) (h : Same H H') : Gr B H B H' := ⟨Same.refl _, h, b.trans h, fun _ _ _ n => n⟩
/-- a new object of the base -/
theorem Gr.alloc {B H : Hp} {p : Addr} {o : HO} (b : Same B H) (h : H p = none) : Gr B H (upd B p o) (upd H p o) := by
  have hb : B p = none := by
    cases q : B p with
    | none => rfl
    | some u => rw [b p u q] at h; cases h
  refine ⟨same_upd hb, same_upd h, fun a u q => ?_, fun a u q n => ?_⟩
  · by_cases e : a = p
    · subst e; rw [upd_same] at q ⊢; exact q
    · rw [upd_ne e] at q ⊢; exact b a u q
  · rw [upd_ne (ne_of_none q h)]; exact n
/-- an owned part becomes a part of the base -/
theorem Gr.frz {B M H B' H' M' : Hp} (g : Gr B H B' H') (m : Same M' H') (new : ∀ a o, M' a = some o → H a = none ∧ B' a = none) : Gr B H (un M' B') H' := by
  have d : Dj M' B' := fun a o h => (new a o h).2
  refine ⟨g.bb.trans (same_un_r d), g.hh, same_un m g.bh, fun a o h n => ?_⟩
  refine un_none.mpr ⟨?_, g.new a o h n⟩
  cases q : M' a with
  | none => rfl
  | some u => rw [(new a u q).1] at h; cases h

/-- a step that may change the owned part -/
structure Stp (B M H B' M' H' : Hp) : Prop where
  bb : Same B B'
  i : In B' M' H'
  fr : ∀ a o, H a = some o → M a = none → H' a = some o
  newB : ∀ a o, H a = some o → B a = none → M a = none → B' a = none
  newM : ∀ a o, H a = some o → M a = none → M' a = none
theorem Stp.refl {B M H : Hp} (i : In B M H) : Stp B M H B M H := ⟨Same.refl _, i, fun _ _ h _ => h, fun _ _ _ h _ => h, fun _ _ _ h => h⟩
theorem Stp.trans {B M H B1 M1 H1 B2 M2 H2 : Hp} (p : Stp B M H B1 M1 H1) (q : Stp B1 M1 H1 B2 M2 H2) : Stp B M H B2 M2 H2 :=
  ⟨p.bb.trans q.bb, q.i, fun a o h n => q.fr a o (p.fr a o h n) (p.newM a o h n),
   fun a o h b n => q.newB a o (p.fr a o h n) (p.newB a o h b n) (p.newM a o h n), fun a o h n => q.newM a o (p.fr a o h n) (p.newM a o h n)⟩
theorem Stp.gr {B M H B' H' : Hp} (i : In B M H) (g : Gr B H B' H') : Stp B M H B' M H' :=
  ⟨g.bb, i.gr g, fun a o h _ => g.hh a o h, fun a o h b _ => g.new a o h b, fun _ _ _ n => n⟩
theorem Stp.drop {B M H M' : Hp} (i : In B M H) (s : Same M' M) : Stp B M H B M' H := by
  refine ⟨Same.refl _, ⟨i.b, s.trans i.m, i.dj.sub s⟩, fun _ _ h _ => h, fun _ _ _ b _ => b, fun a o h n => ?_⟩
  cases q : M' a with
  | none => rfl
  | some u => rw [s a u q] at n; cases n

/-! ### slots -/
structure MP where
  p : V → Hp → Prop
  mono : ∀ v B B', Same B B' → p v B → p v B'
/-- what an owned thing is: by its value, the base, its own part of the heap; how it is seen when it changes no more -/
structure MO where
  p : V → Hp → Hp → Prop
  mono : ∀ v B B' M, Same B B' → p v B M → p v B' M
  fr : MP
  frz : ∀ v B M, Dj M B → p v B M → fr.p v (un M B)
  kd : ∀ v B M, p v B M → ∀ a o, M a = some o → (∀ xs, o ≠ .tup xs) ∧ (∀ z u, o ≠ .frz z u)
/-- .. that stands at u -/
def MO.at (ψ : MO) (u : V) : MO := ⟨fun v B M => v = u ∧ ψ.p v B M, fun v B B' M h p => ⟨p.1, ψ.mono v B B' M h p.2⟩, ψ.fr, fun v B M d p => ψ.frz v B M d p.2, fun v B M p => ψ.kd v B M p.2⟩
inductive Slot where
  | any
  | val (φ : MP)
  | own (ψ : MO)

def OkS : List Slot → L2.St → Hp → Hp → Prop
  | [], [], _, M => M = emp
  | .any :: Γ, _ :: σ, B, M => OkS Γ σ B M
  | .val φ :: Γ, o :: σ, B, M => (∃ v, o = some v ∧ φ.p v B) ∧ OkS Γ σ B M
  | .own ψ :: Γ, o :: σ, B, M => ∃ v M1 M2, o = some v ∧ M = un M1 M2 ∧ Dj M1 M2 ∧ ψ.p v B M1 ∧ OkS Γ σ B M2
  | _, _, _, _ => False
theorem OkS.mono {B B' : Hp} (h : Same B B') : ∀ {Γ : List Slot} {σ : L2.St} {M : Hp}, OkS Γ σ B M → OkS Γ σ B' M
  | [], [], _, k => k
  | .any :: Γ, _ :: σ, M, k => OkS.mono h (Γ := Γ) (σ := σ) k
  | .val φ :: Γ, o :: σ, M, ⟨⟨v, e, p⟩, k⟩ => ⟨⟨v, e, φ.mono v B B' h p⟩, OkS.mono h k⟩
  | .own ψ :: Γ, o :: σ, M, ⟨v, M1, M2, e, m, d, p, k⟩ => ⟨v, M1, M2, e, m, d, ψ.mono v B B' M1 h p, OkS.mono h k⟩
  | [], _ :: _, _, k => k.elim
  | .any :: _, [], _, k => k.elim
  | .val _ :: _, [], _, k => k.elim
  | .own _ :: _, [], _, k => k.elim
theorem OkS.len {B : Hp} : ∀ {Γ : List Slot} {σ : L2.St} {M : Hp}, OkS Γ σ B M → Γ.length = σ.length
  | [], [], _, _ => rfl
  | .any :: Γ, _ :: σ, M, k => congrArg (· + 1) (OkS.len (Γ := Γ) (σ := σ) k)
  | .val φ :: Γ, o :: σ, M, ⟨_, k⟩ => congrArg (· + 1) (OkS.len k)
  | .own ψ :: Γ, o :: σ, M, ⟨_, _, _, _, _, _, _, k⟩ => congrArg (· + 1) (OkS.len k)
  | [], _ :: _, _, k => k.elim
  | .any :: _, [], _, k => k.elim
  | .val _ :: _, [], _, k => k.elim
  | .own _ :: _, [], _, k => k.elim
/-- the i-th slot -/
def sl : List Slot → Nat → Slot
  | [], _ => .any
  | s :: _, 0 => s
  | _ :: Γ, i + 1 => sl Γ i
def st : List Slot → Nat → Slot → List Slot
  | [], _, _ => []
  | _ :: Γ, 0, u => u :: Γ
  | s :: Γ, i + 1, u => s :: st Γ i u
theorem OkS.val {φ : MP} {B : Hp} : ∀ {Γ : List Slot} {σ : L2.St} {M : Hp} {i : Nat}, OkS Γ σ B M → sl Γ i = .val φ → ∃ v, σ[i]? = some (some v) ∧ φ.p v B
  | [], [], _, _, _, q => nomatch q
  | .any :: Γ, _ :: σ, M, 0, k, q => nomatch q
  | .any :: Γ, _ :: σ, M, i + 1, k, q => by
    obtain ⟨v, e, p⟩ := OkS.val (i := i) (Γ := Γ) (σ := σ) k q
    exact ⟨v, by simpa using e, p⟩
  | .val ψ :: Γ, o :: σ, M, 0, ⟨⟨v, e, p⟩, k⟩, q => by
    obtain rfl : ψ = φ := Slot.val.inj q
    exact ⟨v, by simp [e], p⟩
  | .val ψ :: Γ, o :: σ, M, i + 1, ⟨_, k⟩, q => by
    obtain ⟨v, e, p⟩ := OkS.val (i := i) k q
    exact ⟨v, by simpa using e, p⟩
  | .own ψ :: Γ, o :: σ, M, 0, _, q => nomatch q
  | .own ψ :: Γ, o :: σ, M, i + 1, ⟨_, _, _, _, _, _, _, k⟩, q => by
    obtain ⟨v, e, p⟩ := OkS.val (i := i) k q
    exact ⟨v, by simpa using e, p⟩
  | [], _ :: _, _, _, k, _ => k.elim
  | .any :: _, [], _, _, k, _ => k.elim
  | .val _ :: _, [], _, _, k, _ => k.elim
  | .own _ :: _, [], _, _, k, _ => k.elim
/-- a slot is stored: a value of the base -/
theorem OkS.set {φ : MP} {v : V} {B : Hp} (p : φ.p v B) : ∀ {Γ : List Slot} {σ : L2.St} {M : Hp} {i : Nat}, OkS Γ σ B M → ∃ M', Same M' M ∧ OkS (st Γ i (.val φ)) (σ.set i (some v)) B M'
  | [], [], M, i, k => ⟨M, Same.refl _, by cases i <;> exact k⟩
  | .any :: Γ, _ :: σ, M, 0, k => ⟨M, Same.refl _, ⟨v, rfl, p⟩, k⟩
  | .any :: Γ, _ :: σ, M, i + 1, k => by
    obtain ⟨M', s, q⟩ := OkS.set p (i := i) (Γ := Γ) (σ := σ) k
    exact ⟨M', s, q⟩
  | .val ψ :: Γ, o :: σ, M, 0, ⟨_, k⟩ => ⟨M, Same.refl _, ⟨v, rfl, p⟩, k⟩
  | .val ψ :: Γ, o :: σ, M, i + 1, ⟨z, k⟩ => by
    obtain ⟨M', s, q⟩ := OkS.set p (i := i) k
    exact ⟨M', s, z, q⟩
  | .own ψ :: Γ, o :: σ, M, 0, ⟨_, M1, M2, _, m, d, _, k⟩ => ⟨M2, by rw [m]; exact same_un_r d, ⟨v, rfl, p⟩, k⟩
  | .own ψ :: Γ, o :: σ, M, i + 1, ⟨w, M1, M2, e, m, d, z, k⟩ => by
    obtain ⟨M', s, q⟩ := OkS.set p (i := i) k
    have d' : Dj M1 M' := (d.symm.sub s).symm
    exact ⟨un M1 M', by rw [m]; exact same_un' (Same.refl _) s d, w, M1, M', e, rfl, d', z, q⟩
  | [], _ :: _, _, _, k => k.elim
  | .any :: _, [], _, _, k => k.elim
  | .val _ :: _, [], _, _, k => k.elim
  | .own _ :: _, [], _, _, k => k.elim
/-- an owned slot, taken out and put back -/
theorem OkS.focus {ψ : MO} {B : Hp} : ∀ {Γ : List Slot} {σ : L2.St} {M : Hp} {i : Nat}, OkS Γ σ B M → sl Γ i = .own ψ →
    ∃ v M1 M2, σ[i]? = some (some v) ∧ M = un M1 M2 ∧ Dj M1 M2 ∧ ψ.p v B M1 ∧
      ∀ (ψ' : MO) B' M1', Same B B' → Dj M1' M2 → ψ'.p v B' M1' → OkS (st Γ i (.own ψ')) σ B' (un M1' M2)
  | [], [], _, _, _, q => nomatch q
  | .any :: Γ, _ :: σ, M, 0, k, q => nomatch q
  | .any :: Γ, _ :: σ, M, i + 1, k, q => by
    obtain ⟨v, M1, M2, e, m, d, p, z⟩ := OkS.focus (i := i) (Γ := Γ) (σ := σ) k q
    exact ⟨v, M1, M2, by simpa using e, m, d, p, fun ψ' B' M1' s d' p' => z ψ' B' M1' s d' p'⟩
  | .val φ :: Γ, o :: σ, M, 0, _, q => nomatch q
  | .val φ :: Γ, o :: σ, M, i + 1, ⟨⟨w, ew, pw⟩, k⟩, q => by
    obtain ⟨v, M1, M2, e, m, d, p, z⟩ := OkS.focus (i := i) k q
    exact ⟨v, M1, M2, by simpa using e, m, d, p, fun ψ' B' M1' s d' p' => ⟨⟨w, ew, φ.mono w B B' s pw⟩, z ψ' B' M1' s d' p'⟩⟩
  | .own χ :: Γ, o :: σ, M, 0, ⟨v, M1, M2, e, m, d, p, k⟩, q => by
    obtain rfl : χ = ψ := Slot.own.inj q
    exact ⟨v, M1, M2, by simp [e], m, d, p, fun ψ' B' M1' s d' p' => ⟨v, M1', M2, e, rfl, d', p', k.mono s⟩⟩
  | .own χ :: Γ, o :: σ, M, i + 1, ⟨w, N1, N2, ew, mw, dw, pw, k⟩, q => by
    obtain ⟨v, M1, M2, e, m, d, p, z⟩ := OkS.focus (i := i) k q
    have dN : Dj N1 (un M1 M2) := by rw [← m]; exact dw
    have d1 : Dj M1 N1 := dN.symm.un_l
    have d2 : Dj M2 N1 := dN.symm.un_r d
    refine ⟨v, M1, un N1 M2, by simpa using e, ?_, (Dj.un d1.symm d.symm).symm, p, fun ψ' B' M1' s d' p' => ?_⟩
    · rw [mw, m, ← un_assoc, un_comm d1.symm, un_assoc]
    · have e1 : Dj N1 M1' := d'.symm.un_l
      have e2 : Dj M2 M1' := d'.symm.un_r d2.symm
      refine ⟨w, N1, un M1' M2, ew, ?_, (Dj.un e1.symm d2).symm, χ.mono w B B' N1 s pw, z ψ' B' M1' s e2.symm p'⟩
      rw [← un_assoc, ← un_assoc, un_comm e1.symm]
  | [], _ :: _, _, _, k, _ => k.elim
  | .any :: _, [], _, _, k, _ => k.elim
  | .val _ :: _, [], _, _, k, _ => k.elim
  | .own _ :: _, [], _, _, k, _ => k.elim
/-- a slot is stored: a new owned thing -/
theorem OkS.setOwn {ψ : MO} {v : V} {B N : Hp} (p : ψ.p v B N) : ∀ {Γ : List Slot} {σ : L2.St} {M : Hp} {i : Nat}, OkS Γ σ B M → Dj N M → i < Γ.length →
    ∃ M', Same M' M ∧ OkS (st Γ i (.own ψ)) (σ.set i (some v)) B (un N M')
  | [], [], M, i, k, _, h => absurd h (Nat.not_lt_zero _)
  | .any :: Γ, _ :: σ, M, 0, k, d, _ => ⟨M, Same.refl _, v, N, M, rfl, rfl, d, p, k⟩
  | .any :: Γ, _ :: σ, M, i + 1, k, d, h => by
    obtain ⟨M', s, q⟩ := OkS.setOwn p (i := i) (Γ := Γ) (σ := σ) k d (Nat.lt_of_succ_lt_succ h)
    exact ⟨M', s, q⟩
  | .val ψ :: Γ, o :: σ, M, 0, ⟨_, k⟩, d, _ => ⟨M, Same.refl _, v, N, M, rfl, rfl, d, p, k⟩
  | .val ψ :: Γ, o :: σ, M, i + 1, ⟨z, k⟩, d, h => by
    obtain ⟨M', s, q⟩ := OkS.setOwn p (i := i) k d (Nat.lt_of_succ_lt_succ h)
    exact ⟨M', s, z, q⟩
  | .own χ :: Γ, o :: σ, M, 0, ⟨_, M1, M2, _, m, d, _, k⟩, dn, _ => ⟨M2, by rw [m]; exact same_un_r d, v, N, M2, rfl, rfl, (dn.symm.sub (by rw [m]; exact same_un_r d)).symm, p, k⟩
  | .own χ :: Γ, o :: σ, M, i + 1, ⟨w, M1, M2, e, m, d, z, k⟩, dn, h => by
    have dM : Dj (un M1 M2) N := by rw [← m]; exact dn.symm
    obtain ⟨M', s, q⟩ := OkS.setOwn p (i := i) k (dM.un_r d).symm (Nat.lt_of_succ_lt_succ h)
    have d' : Dj M1 M' := (d.symm.sub s).symm
    have dN : Dj M1 N := dM.un_l
    refine ⟨un M1 M', by rw [m]; exact same_un' (Same.refl _) s d, w, M1, un N M', e, ?_, (Dj.un dN.symm d'.symm).symm, z, q⟩
    rw [← un_assoc, un_comm dN.symm, un_assoc]
  | [], _ :: _, _, _, k, _, _ => k.elim
  | .any :: _, [], _, _, k, _, _ => k.elim
  | .val _ :: _, [], _, _, k, _, _ => k.elim
  | .own _ :: _, [], _, _, k, _, _ => k.elim
/-- what is forgotten -/
inductive Sub : List Slot → List Slot → Prop
  | nil : Sub [] []
  | eq {s : Slot} {Γ Γ' : List Slot} (h : Sub Γ Γ') : Sub (s :: Γ) (s :: Γ')
  | any {s : Slot} {Γ Γ' : List Slot} (h : Sub Γ Γ') : Sub (s :: Γ) (.any :: Γ')
theorem Sub.refl : ∀ Γ : List Slot, Sub Γ Γ
  | [] => .nil
  | _ :: Γ => .eq (Sub.refl Γ)
theorem OkS.sub {B : Hp} {Γ Γ' : List Slot} (h : Sub Γ Γ') : ∀ {σ : L2.St} {M : Hp}, OkS Γ σ B M → ∃ M', Same M' M ∧ OkS Γ' σ B M' := by
  induction h with
  | nil => exact fun {σ M} k => ⟨M, Same.refl _, k⟩
  | @eq s Γ Γ' h ih =>
    intro σ M k
    cases σ with
    | nil => cases s <;> exact k.elim
    | cons o σ =>
      cases s with
      | any => obtain ⟨M', a, q⟩ := ih (σ := σ) (M := M) k; exact ⟨M', a, q⟩
      | val φ => obtain ⟨z, k⟩ := k; obtain ⟨M', a, q⟩ := ih k; exact ⟨M', a, z, q⟩
      | own ψ =>
        obtain ⟨w, M1, M2, e, m, d, z, k⟩ := k
        obtain ⟨M', a, q⟩ := ih k
        exact ⟨un M1 M', by rw [m]; exact same_un' (Same.refl _) a d, w, M1, M', e, rfl, (d.symm.sub a).symm, z, q⟩
  | @any s Γ Γ' h ih =>
    intro σ M k
    cases σ with
    | nil => cases s <;> exact k.elim
    | cons o σ =>
      cases s with
      | any => obtain ⟨M', a, q⟩ := ih (σ := σ) (M := M) k; exact ⟨M', a, q⟩
      | val φ => obtain ⟨z, k⟩ := k; obtain ⟨M', a, q⟩ := ih k; exact ⟨M', a, q⟩
      | own ψ =>
        obtain ⟨w, M1, M2, e, m, d, z, k⟩ := k
        obtain ⟨M', a, q⟩ := ih k
        exact ⟨M', a.trans (by rw [m]; exact same_un_r d), q⟩
theorem OkS.kd {B : Hp} : ∀ {Γ : List Slot} {σ : L2.St} {M : Hp}, OkS Γ σ B M → ∀ a o, M a = some o → (∀ xs, o ≠ .tup xs) ∧ (∀ z u, o ≠ .frz z u)
  | [], [], M, k, a, o, h => by rw [show M = emp from k] at h; cases h
  | .any :: Γ, _ :: σ, M, k, a, o, h => OkS.kd (Γ := Γ) (σ := σ) k a o h
  | .val φ :: Γ, o :: σ, M, ⟨_, k⟩, a, _, h => OkS.kd k a _ h
  | .own ψ :: Γ, o :: σ, M, ⟨v, M1, M2, e, m, d, p, k⟩, a, _, h => by
    rw [m] at h
    rcases un_some h with h | ⟨_, h⟩
    · exact ψ.kd v B M1 p a _ h
    · exact OkS.kd k a _ h
  | [], _ :: _, _, k, _, _, _ => k.elim
  | .any :: _, [], _, k, _, _, _ => k.elim
  | .val _ :: _, [], _, k, _, _, _ => k.elim
  | .own _ :: _, [], _, k, _, _, _ => k.elim
/-- all owned things as they are seen: for reading alone -/
def fz : List Slot → List Slot
  | [] => []
  | .any :: Γ => .any :: fz Γ
  | .val φ :: Γ => .val φ :: fz Γ
  | .own ψ :: Γ => .val ψ.fr :: fz Γ
theorem OkS.fz : ∀ {Γ : List Slot} {σ : L2.St} {B M : Hp}, OkS Γ σ B M → Dj M B → OkS (G.fz Γ) σ (un M B) emp
  | [], [], B, M, k, d => rfl
  | .any :: Γ, _ :: σ, B, M, k, d => OkS.fz (Γ := Γ) (σ := σ) k d
  | .val φ :: Γ, o :: σ, B, M, ⟨⟨v, e, p⟩, k⟩, d => ⟨⟨v, e, φ.mono v B _ (same_un_r d) p⟩, OkS.fz k d⟩
  | .own ψ :: Γ, o :: σ, B, M, ⟨v, M1, M2, e, m, dd, p, k⟩, d => by
    subst m
    have d2 : Dj M2 B := d.un_r dd
    have q := OkS.fz k d2
    refine ⟨⟨v, e, ?_⟩, q.mono ?_⟩
    · refine ψ.fr.mono v _ _ ?_ (ψ.frz v B M1 d.un_l p)
      rw [un_assoc]
      exact same_mono (same_un_r d2) (Dj.un dd.symm d.un_l.symm).symm
    · rw [un_assoc]
      exact same_un_r (Dj.un dd.symm d.un_l.symm).symm
  | [], _ :: _, _, _, k, _ => k.elim
  | .any :: _, [], _, _, k, _ => k.elim
  | .val _ :: _, [], _, _, k, _ => k.elim
  | .own _ :: _, [], _, _, k, _ => k.elim
end G
/-! G2: types of data, expressions. -/
namespace G
open PySem L2

/-! ### types -/
structure Ty (α : Type) where
  rel : α → V → Hp → Prop
  mono : ∀ x v B B', Same B B' → rel x v B → rel x v B'
def Ty.P {α : Type} (τ : Ty α) (x : α) : MP := ⟨fun v B => τ.rel x v B, τ.mono x⟩
/-- what stands in a tuple, an instance, an argument list -/
structure TyT (α : Type) where
  rel : α → List V → Hp → Prop
  mono : ∀ x vs B B', Same B B' → rel x vs B → rel x vs B'
  len : Nat
  hlen : ∀ x vs B, rel x vs B → vs.length = len
  slots : α → List Slot
  hsl : ∀ x vs B, rel x vs B → OkS (slots x) (vs.map some) B emp
def tInt : Ty Int := ⟨fun i v _ => v = .int i, fun _ _ _ _ _ h => h⟩
def tBool : Ty Bool := ⟨fun b v _ => v = .bl b, fun _ _ _ _ _ h => h⟩
def tStr : Ty Str := ⟨fun s v _ => v = .str s, fun _ _ _ _ _ h => h⟩
def tNone : Ty Unit := ⟨fun _ v _ => v = .non, fun _ _ _ _ _ h => h⟩
def tOpt {α : Type} (τ : Ty α) : Ty (Option α) where
  rel := fun o v B => match o with
    | none => v = .non
    | some x => v ≠ .non ∧ τ.rel x v B
  mono := fun o v B B' h p => by
    cases o with
    | none => exact p
    | some x => exact ⟨p.1, τ.mono x v B B' h p.2⟩
def tList (K : PySem.W.Frag) {α : Type} (τ : Ty α) : Ty (List α) where
  rel := fun xs v B => ∃ a vs, v = .ref a ∧ B a = some (.lst vs) ∧ Paired (fun x u => τ.rel x u B) xs vs
  mono := fun xs v B B' h ⟨a, vs, e, s, p⟩ => ⟨a, vs, e, h _ _ s, Paired.mapP p fun x u r => τ.mono x u B B' h r⟩
/-- the script: a list of ints that stands outside -/
def tScr (K : PySem.W.Frag) : Ty (List Int) where
  rel := fun xs v B => ∃ a, v = .ref a ∧ SqL K B a (xs.map V.int)
  mono := fun xs v B B' h ⟨a, e, s⟩ => ⟨a, e, h.seq s⟩
def tOne {α : Type} (τ : Ty α) : TyT α where
  rel := fun x vs B => ∃ v, vs = [v] ∧ τ.rel x v B
  mono := fun x vs B B' h ⟨v, e, r⟩ => ⟨v, e, τ.mono x v B B' h r⟩
  len := 1
  hlen := fun x vs B ⟨v, e, r⟩ => by rw [e]; rfl
  slots := fun x => [.val (τ.P x)]
  hsl := fun x vs B ⟨v, e, r⟩ => by subst e; exact ⟨⟨v, rfl, r⟩, rfl⟩
def tNil : TyT Unit where
  rel := fun _ vs _ => vs = []
  mono := fun _ _ _ _ _ h => h
  len := 0
  hlen := fun x vs B e => by rw [e]; rfl
  slots := fun _ => []
  hsl := fun x vs B e => by subst e; exact rfl
def tCons {α β : Type} (τ : Ty α) (ρ : TyT β) : TyT (α × β) where
  rel := fun x vs B => ∃ v ws, vs = v :: ws ∧ τ.rel x.1 v B ∧ ρ.rel x.2 ws B
  mono := fun x vs B B' h ⟨v, ws, e, r, q⟩ => ⟨v, ws, e, τ.mono _ v B B' h r, ρ.mono _ ws B B' h q⟩
  len := ρ.len + 1
  hlen := fun x vs B ⟨v, ws, e, r, q⟩ => by rw [e, List.length_cons, ρ.hlen _ _ _ q]
  slots := fun x => .val (τ.P x.1) :: ρ.slots x.2
  hsl := fun x vs B ⟨v, ws, e, r, q⟩ => by subst e; exact ⟨⟨v, rfl, r⟩, ρ.hsl _ _ _ q⟩
theorem same_tup {K : PySem.W.Frag} {H H' : Hp} {a : Addr} {xs : List V} (e : Same H H') (h : SqT K H a xs) : SqT K H' a xs := by
  rcases h with (h | ⟨o, h⟩) | h
  · exact .inl (.inl (e _ _ h))
  · exact .inl (.inr ⟨o, e _ _ h⟩)
  · exact .inr h
def tTup (K : PySem.W.Frag) {α : Type} (ρ : TyT α) : Ty α where
  rel := fun x v B => ∃ a vs, v = .ref a ∧ SqT K B a vs ∧ ρ.rel x vs B
  mono := fun x v B B' h ⟨a, vs, e, s, p⟩ => ⟨a, vs, e, same_tup h s, ρ.mono x vs B B' h p⟩
/-- a tuple of any length whose items are alike -/
def tTups (K : PySem.W.Frag) {α : Type} (τ : Ty α) : Ty (List α) where
  rel := fun xs v B => ∃ a vs, v = .ref a ∧ SqT K B a vs ∧ Paired (fun x u => τ.rel x u B) xs vs
  mono := fun xs v B B' h ⟨a, vs, e, s, p⟩ => ⟨a, vs, e, same_tup h s, Paired.mapP p fun x u r => τ.mono x u B B' h r⟩
/-- an instance of the class at C whose attributes are names, in this order -/
def tObjP (C : Addr) (names : List Str) (Γf : List Slot) : MP where
  p := fun v B => ∃ a dx vs, v = .ref a ∧ B a = some (.ins C dx (names.zip vs)) ∧ names.length = vs.length ∧ OkS Γf (vs.map some) B emp
  mono := fun v B B' h ⟨a, dx, vs, e, s, l, k⟩ => ⟨a, dx, vs, e, h _ _ s, l, k.mono h⟩
def tObj (C : Addr) (names : List Str) {α : Type} (sf : α → List Slot) : Ty α where
  rel := fun x v B => (tObjP C names (sf x)).p v B
  mono := fun x v B B' h p => (tObjP C names (sf x)).mono v B B' h p
def mList (K : PySem.W.Frag) {α : Type} (τ : Ty α) (xs : List α) : MO where
  p := fun v B M => ∃ a vs, v = .ref a ∧ M = sing a (.lst vs) ∧ Paired (fun x u => τ.rel x u B) xs vs
  mono := fun v B B' M h ⟨a, vs, e, m, p⟩ => ⟨a, vs, e, m, Paired.mapP p fun x u r => τ.mono x u B B' h r⟩
  fr := (tList K τ).P xs
  frz := fun v B M d ⟨a, vs, e, m, p⟩ => by
    refine ⟨a, vs, e, un_l ?_, Paired.mapP p fun x u r => τ.mono x u B _ (same_un_r d) r⟩
    rw [m]; exact sing_same
  kd := fun v B M ⟨a, vs, e, m, p⟩ b ys h => by
    rw [m] at h
    obtain ⟨_, z⟩ := sing_some h
    subst z
    exact ⟨fun _ q => (nomatch q), fun _ _ q => (nomatch q)⟩
def mObj (C : Addr) (names : List Str) (Γf : List Slot) : MO where
  p := fun v B M => ∃ a dx vs M1, v = .ref a ∧ M = un (sing a (.ins C dx (names.zip vs))) M1 ∧ Dj (sing a (.ins C dx (names.zip vs))) M1 ∧ names.length = vs.length ∧ OkS Γf (vs.map some) B M1
  mono := fun v B B' M h ⟨a, dx, vs, M1, e, m, d, l, k⟩ => ⟨a, dx, vs, M1, e, m, d, l, k.mono h⟩
  fr := tObjP C names (fz Γf)
  frz := fun v B M dj ⟨a, dx, vs, M1, e, m, d, l, k⟩ => by
    subst m
    have d1 : Dj M1 B := dj.un_r d
    have d0 : Dj (sing a (.ins C dx (names.zip vs))) (un M1 B) := (Dj.un d.symm (dj.un_l).symm).symm
    refine ⟨a, dx, vs, e, un_l (un_l sing_same), l, (k.fz d1).mono ?_⟩
    rw [un_assoc]
    exact same_un_r d0
  kd := fun v B M ⟨a, dx, vs, M1, e, m, d, l, k⟩ b o h => by
    rw [m] at h
    rcases un_some h with h | ⟨_, h⟩
    · obtain ⟨_, z⟩ := sing_some h
      subst z
      exact ⟨fun _ q => (nomatch q), fun _ _ q => (nomatch q)⟩
    · exact k.kd b o h
/-- a list of owned things -/
def AllO (K : PySem.W.Frag) : List MO → List V → Hp → Hp → Prop
  | [], [], _, M => M = emp
  | ψ :: ψs, v :: vs, B, M => ∃ M1 M2, M = un M1 M2 ∧ Dj M1 M2 ∧ ψ.p v B M1 ∧ AllO K ψs vs B M2
  | _, _, _, _ => False
/-- not None -/
class NN {α : Type} (τ : Ty α) : Prop where
  nn : ∀ x v B, τ.rel x v B → v ≠ .non
instance : NN tInt := ⟨fun x v B h => by cases h; intro z; cases z⟩
instance : NN tBool := ⟨fun x v B h => by cases h; intro z; cases z⟩
instance : NN tStr := ⟨fun x v B h => by cases h; intro z; cases z⟩
instance {K : PySem.W.Frag} {α : Type} {τ : Ty α} : NN (tList K τ) := ⟨fun x v B ⟨a, vs, e, _⟩ => by rw [e]; intro z; cases z⟩
instance {K : PySem.W.Frag} {α : Type} {ρ : TyT α} : NN (tTup K ρ) := ⟨fun x v B ⟨a, vs, e, _⟩ => by rw [e]; intro z; cases z⟩
instance {K : PySem.W.Frag} {α : Type} {τ : Ty α} : NN (tTups K τ) := ⟨fun x v B ⟨a, vs, e, _⟩ => by rw [e]; intro z; cases z⟩
instance {C : Addr} {names : List Str} {α : Type} {f : α → List Slot} : NN (tObj C names f) := ⟨fun x v B ⟨a, dx, vs, e, _⟩ => by rw [e]; intro z; cases z⟩
/-- says nothing of the heap -/
class Scal {α : Type} (τ : Ty α) : Prop where
  sc : ∀ x v B B', τ.rel x v B → τ.rel x v B'
instance : Scal tInt := ⟨fun _ _ _ _ h => h⟩
instance : Scal tBool := ⟨fun _ _ _ _ h => h⟩
instance : Scal tStr := ⟨fun _ _ _ _ h => h⟩
instance : Scal tNone := ⟨fun _ _ _ _ h => h⟩
instance {α : Type} {τ : Ty α} [Scal τ] : Scal (tOpt τ) := ⟨fun o v B B' h => by
  cases o with
  | none => exact h
  | some x => exact ⟨h.1, Scal.sc x v B B' h.2⟩⟩
/-- stands on tuples alone -/
class Safe {α : Type} (τ : Ty α) : Prop where
  sf : ∀ x v B B', (∀ a xs, B a = some (.tup xs) → B' a = some (.tup xs)) → (∀ a o u, B a = some (.frz o u) → B' a = some (.frz o u)) → τ.rel x v B → τ.rel x v B'
class SafeT {α : Type} (ρ : TyT α) : Prop where
  sf : ∀ x v B B', (∀ a xs, B a = some (.tup xs) → B' a = some (.tup xs)) → (∀ a o u, B a = some (.frz o u) → B' a = some (.frz o u)) → ρ.rel x v B → ρ.rel x v B'
instance : Safe tInt := ⟨fun _ _ _ _ _ _ h => h⟩
instance : Safe tBool := ⟨fun _ _ _ _ _ _ h => h⟩
instance : Safe tStr := ⟨fun _ _ _ _ _ _ h => h⟩
instance : Safe tNone := ⟨fun _ _ _ _ _ _ h => h⟩
instance {α : Type} {τ : Ty α} [Safe τ] : Safe (tOpt τ) := ⟨fun o v B B' h h2 r => by
  cases o with
  | none => exact r
  | some x => exact ⟨r.1, Safe.sf x v B B' h h2 r.2⟩⟩
instance {α : Type} {τ : Ty α} [Safe τ] : SafeT (tOne τ) := ⟨fun x vs B B' h h2 ⟨v, e, r⟩ => ⟨v, e, Safe.sf x v B B' h h2 r⟩⟩
instance {α β : Type} {τ : Ty α} {ρ : TyT β} [Safe τ] [SafeT ρ] : SafeT (tCons τ ρ) := ⟨fun x vs B B' h h2 ⟨v, ws, e, r, q⟩ => ⟨v, ws, e, Safe.sf _ v B B' h h2 r, SafeT.sf _ ws B B' h h2 q⟩⟩
theorem safe_sqt {K : PySem.W.Frag} {B B' : Hp} {a : Addr} {vs : List V} (h : ∀ a xs, B a = some (.tup xs) → B' a = some (.tup xs)) (h2 : ∀ a o u, B a = some (.frz o u) → B' a = some (.frz o u)) (s : SqT K B a vs) : SqT K B' a vs := by
  rcases s with (s | ⟨o, s⟩) | s
  · exact .inl (.inl (h _ _ s))
  · exact .inl (.inr ⟨o, h2 _ _ _ s⟩)
  · exact .inr s
instance {K : PySem.W.Frag} {α : Type} {ρ : TyT α} [SafeT ρ] : Safe (tTup K ρ) := ⟨fun x v B B' h h2 ⟨a, vs, e, s, p⟩ => ⟨a, vs, e, safe_sqt h h2 s, SafeT.sf x vs B B' h h2 p⟩⟩
instance {K : PySem.W.Frag} {α : Type} {τ : Ty α} [Safe τ] : Safe (tTups K τ) := ⟨fun x v B B' h h2 ⟨a, vs, e, s, p⟩ => ⟨a, vs, e, safe_sqt h h2 s, Paired.mapP p fun x u r => Safe.sf x u B B' h h2 r⟩⟩

/-! ### results that may fail -/
def o1 {α β : Type} (f : α → β) (a : Option α) : Option β := a.bind fun x => some (f x)
def o2 {α β γ : Type} (f : α → β → Option γ) (a : Option α) (b : Option β) : Option γ := a.bind fun x => b.bind fun y => f x y
def a2 {α β : Type} (a : Option α) (b : Option β) : Option (α × β) := a.bind fun x => b.bind fun y => some (x, y)
def andO (a b : Option Bool) : Option Bool := a.bind fun x => if x = true then b else some false
def orO (a b : Option Bool) : Option Bool := a.bind fun x => if x = true then some true else b
theorem o1_some {α β : Type} (f : α → β) (x : α) : o1 f (some x) = some (f x) := rfl
theorem o2_some {α β γ : Type} (f : α → β → Option γ) (x : α) (y : β) : o2 f (some x) (some y) = f x y := rfl
theorem a2_some {α β : Type} (x : α) (y : β) : a2 (some x) (some y) = some (x, y) := rfl
theorem andO_some (a b : Bool) : andO (some a) (some b) = some (a && b) := by cases a <;> rfl
theorem orO_some (a b : Bool) : orO (some a) (some b) = some (a || b) := by cases a <;> rfl
theorem o1_of {α β : Type} {f : α → β} {a : Option α} {z : β} (h : o1 f a = some z) : ∃ x, a = some x ∧ f x = z := by
  cases a with
  | none => cases h
  | some x => exact ⟨x, rfl, Option.some.inj h⟩
theorem o2_of {α β γ : Type} {f : α → β → Option γ} {a : Option α} {b : Option β} {z : γ} (h : o2 f a b = some z) : ∃ x y, a = some x ∧ b = some y ∧ f x y = some z := by
  cases a with
  | none => cases h
  | some x =>
    cases b with
    | none => cases h
    | some y => exact ⟨x, y, rfl, rfl, h⟩
theorem a2_of {α β : Type} {a : Option α} {b : Option β} {z : α × β} (h : a2 a b = some z) : a = some z.1 ∧ b = some z.2 := by
  cases a with
  | none => cases h
  | some x =>
    cases b with
    | none => cases h
    | some y =>
      have e : (x, y) = z := Option.some.inj h
      subst e
      exact ⟨rfl, rfl⟩
theorem bind_of {α β : Type} {a : Option α} {f : α → Option β} {z : β} (h : a.bind f = some z) : ∃ x, a = some x ∧ f x = some z := by
  cases a with
  | none => cases h
  | some x => exact ⟨x, rfl, h⟩

/-! ### the judgements -/
section
variable (X : Cx)
def wE (e : Expr) : TE := fun σ H Q => ∀ (pins : List (Addr × Obj)) (s : Shared), Inv X pins σ H s → wpAny (model X.prog X.w) X.A (eval e X.env) (EP X pins σ Q) X.xe s
def wT (e : Expr) : TT := fun σ H Q => ∀ (pins : List (Addr × Obj)) (s : Shared), Inv X pins σ H s → wpAny (model X.prog X.w) X.A (isTrue e X.env (eval e X.env)) (TP X pins σ Q) X.xe s
def wW (e : Expr) : TT := fun σ H Q => ∀ (whole : Sem Value) (pins : List (Addr × Obj)) (s : Shared), Inv X pins σ H s → wpAny (model X.prog X.w) X.A (isTrue e X.env whole) (TP X pins σ Q) X.xe s
def wA (es : List Expr) : TA := fun σ H Q => ∀ (pos : Pos) (pins : List (Addr × Obj)) (s : Shared), Inv X pins σ H s → wpAny (model X.prog X.w) X.A (spliced (backTo pos (starEach es X.env))) (AP X pins σ Q) X.xe s
def wC (op : CmpOp) (a b : Expr) : TE := fun σ H Q => ∀ (pins : List (Addr × Obj)) (s : Shared), Inv X pins σ H s →
    wpAny (model X.prog X.w) X.A (eval a X.env) (fun v s₁ => wpAny (model X.prog X.w) X.A (eval b X.env) (fun u s₂ => wpAny (model X.prog X.w) X.A (compareOp op v u) (EP X pins σ Q) X.xe s₂) X.xe s₁) X.xe s
def wS (st : Stmt) : TS := fun D σ H => ∀ (pins : List (Addr × Obj)) (s : Shared), Inv X pins σ H s → wpAny (model X.prog X.w) X.A (exec st X.env) (SP X pins D) X.xe s
def wSs (st : List Stmt) : TS := fun D σ H => ∀ (pins : List (Addr × Obj)) (s : Shared), Inv X pins σ H s → wpAny (model X.prog X.w) X.A (execs st X.env) (SP X pins D) X.xe s
end
section
variable {X : Cx}
theorem peW {e : Expr} : PE X e (wE X e) := ⟨fun pins s _ _ _ I h => h pins s I⟩
theorem ptW {e : Expr} : PT X e (wT X e) := ⟨fun pins s _ _ _ I h => h pins s I⟩
theorem pwW {e : Expr} : PW X e (wW X e) := ⟨fun wh pins s _ _ _ I h => h wh pins s I⟩
theorem paW {es : List Expr} : PA X es (wA X es) := ⟨fun pos pins s _ _ _ I h => h pos pins s I⟩
theorem pcW {op : CmpOp} {a b : Expr} : PC X op a b (wC X op a b) := ⟨fun pins s _ _ _ I h => h pins s I⟩
theorem psW {st : Stmt} : PS X st (wS X st) := ⟨fun pins s _ _ _ I h => h pins s I⟩
theorem pssW {st : List Stmt} : PSs X st (wSs X st) := ⟨fun pins s _ _ _ I h => h pins s I⟩
theorem wE_of {e : Expr} {t : TE} (h : PE X e t) {σ : L2.St} {H : Hp} {Q : VK} (q : t σ H Q) : wE X e σ H Q := fun pins s I => h.run pins s σ H Q I q
theorem wT_of {e : Expr} {t : TT} (h : PT X e t) {σ : L2.St} {H : Hp} {Q : Bool → Hp → Prop} (q : t σ H Q) : wT X e σ H Q := fun pins s I => h.run pins s σ H Q I q
theorem wW_of {e : Expr} {t : TT} (h : PW X e t) {σ : L2.St} {H : Hp} {Q : Bool → Hp → Prop} (q : t σ H Q) : wW X e σ H Q := fun wh pins s I => h.run wh pins s σ H Q I q
theorem wA_of {es : List Expr} {t : TA} (h : PA X es t) {σ : L2.St} {H : Hp} {Q : List V → Hp → Prop} (q : t σ H Q) : wA X es σ H Q := fun pos pins s I => h.run pos pins s σ H Q I q
theorem wC_of {op : CmpOp} {a b : Expr} {t : TE} (h : PC X op a b t) {σ : L2.St} {H : Hp} {Q : VK} (q : t σ H Q) : wC X op a b σ H Q := fun pins s I => h.run pins s σ H Q I q
theorem wS_of {st : Stmt} {t : TS} (h : PS X st t) {σ : L2.St} {H : Hp} {D : Ends} (q : t D σ H) : wS X st D σ H := fun pins s I => h.run pins s σ H D I q
theorem wSs_of {st : List Stmt} {t : TS} (h : PSs X st t) {σ : L2.St} {H : Hp} {D : Ends} (q : t D σ H) : wSs X st D σ H := fun pins s I => h.run pins s σ H D I q
end
section
variable (X : Cx)
/-- e comes to x (of the base) wherever m is x -/
def EVm (e : Expr) (Γ : List Slot) {α : Type} (m : Option α) (τ : Ty α) : Prop := ∀ x, m = some x → ∀ B M σ H (Q : VK), In B M H → OkS Γ σ B M → (∀ v B' H', Gr B H B' H' → τ.rel x v B' → Q v H') → wE X e σ H Q
/-- e comes to a new owned x -/
def EOm (e : Expr) (Γ : List Slot) {α : Type} (m : Option α) (μ : α → MO) : Prop := ∀ x, m = some x → ∀ B M σ H (Q : VK), In B M H → OkS Γ σ B M →
  (∀ v B' M' H', Gr B H B' H' → Same M' H' → (∀ a o, M' a = some o → H a = none ∧ B' a = none) → (μ x).p v B' M' → Q v H') → wE X e σ H Q
def ETm (e : Expr) (Γ : List Slot) (m : Option Bool) : Prop := ∀ b, m = some b → ∀ B M σ H (Q : Bool → Hp → Prop), In B M H → OkS Γ σ B M → (∀ B' H', Gr B H B' H' → Q b H') → wT X e σ H Q
def EWm (e : Expr) (Γ : List Slot) (m : Option Bool) : Prop := ∀ b, m = some b → ∀ B M σ H (Q : Bool → Hp → Prop), In B M H → OkS Γ σ B M → (∀ B' H', Gr B H B' H' → Q b H') → wW X e σ H Q
def ECm (op : CmpOp) (a b : Expr) (Γ : List Slot) (m : Option Bool) : Prop := ∀ z, m = some z → ∀ B M σ H (Q : VK), In B M H → OkS Γ σ B M → (∀ B' H', Gr B H B' H' → Q (.bl z) H') → wC X op a b σ H Q
def EAm (es : List Expr) (Γ : List Slot) {α : Type} (m : Option α) (ρ : TyT α) : Prop := ∀ x, m = some x → ∀ B M σ H (Q : List V → Hp → Prop), In B M H → OkS Γ σ B M → (∀ vs B' H', Gr B H B' H' → ρ.rel x vs B' → Q vs H') → wA X es σ H Q
/-- a list's display -/
def ELm (es : List Expr) (Γ : List Slot) {α : Type} (m : Option (List α)) (τ : Ty α) : Prop := ∀ xs, m = some xs → xs.length = es.length ∧ ∀ B M σ H (Q : List V → Hp → Prop), In B M H → OkS Γ σ B M → (∀ vs B' H', Gr B H B' H' → Paired (fun x u => τ.rel x u B') xs vs → Q vs H') → wA X es σ H Q
/-- an operation of two values -/
def OpT (f : Value → Value → Sem Value) {α β γ : Type} (τa : Ty α) (τb : Ty β) (τc : Ty γ) (g : α → β → Option γ) : Prop :=
  ∀ x y z, g x y = some z → ∀ (pins : List (Addr × Obj)) (s : Shared) (σ : L2.St) v w u t B H (Q : VK), Inv X pins σ H s → Same B H → τa.rel x v B → τb.rel y w B → RelV v u → RelV w t →
    (∀ v' B' H', Gr B H B' H' → τc.rel z v' B' → Q v' H') → wpAny (model X.prog X.w) X.A (f u t) (EP X pins σ Q) X.xe s
/-- a call of a known value with one value, with two -/
def Call1 (f : Value) {α β : Type} (τa : Ty α) (τb : Ty β) (g : α → Option β) : Prop :=
  ∀ x z, g x = some z → ∀ (pins : List (Addr × Obj)) (s : Shared) (σ : L2.St) v u B H (Q : VK), Inv X pins σ H s → Same B H → τa.rel x v B → RelV v u →
    (∀ v' B' H', Gr B H B' H' → τb.rel z v' B' → Q v' H') → wpAny (model X.prog X.w) X.A (call f [u]) (EP X pins σ Q) X.xe s
end

section
variable {X : Cx} {Γ : List Slot} {e a b c : Expr} {es : List Expr} {pos p : Pos}
theorem ev_of_eo {α : Type} {m : Option α} {μ : α → MO} {τ : Ty α} (h : EOm X e Γ m μ) (hf : ∀ x, (μ x).fr = τ.P x := by intro _; rfl) : EVm X e Γ m τ := fun x hx B M σ H Q i ok q =>
  h x hx B M σ H Q i ok fun v B' M' H' g sm nw r => q v (un M' B') H' (g.frz (M := emp) sm nw) (by
    have k := (μ x).frz v B' M' (fun a o h => (nw a o h).2) r
    rw [hf x] at k
    exact k)
/-- reading owned things: a value that says nothing of the heap -/
theorem ev_fz {α : Type} {m : Option α} {τ : Ty α} [Scal τ] (h : EVm X e (fz Γ) m τ) : EVm X e Γ m τ := fun x hx B M σ H Q i ok q =>
  h x hx (un M B) emp σ H Q ⟨same_un i.m i.b, (fun _ _ z => nomatch z), Dj.emp _⟩ (ok.fz i.dj) fun v B' H' g r => q v B H' (Gr.heap i.b g.hh) (Scal.sc x v B' B r)
theorem et_fz {m : Option Bool} (h : ETm X e (fz Γ) m) : ETm X e Γ m := fun x hx B M σ H Q i ok q =>
  h x hx (un M B) emp σ H Q ⟨same_un i.m i.b, (fun _ _ z => nomatch z), Dj.emp _⟩ (ok.fz i.dj) fun B' H' g => q B H' (Gr.heap i.b g.hh)
/-! names, constants -/
theorem ev_var {i : Nat} {x : Str} {α : Type} {z : α} {τ : Ty α} (hΓ : sl Γ i = .val (τ.P z)) (hN : X.N[i]? = some x) (hv : Vis X.env.scope x) (hd : (x == ("__debug__" : Str)) = false := by decide) (hcd : (x == ("__classdict__" : Str)) = false := by decide) :
    EVm X (.Name x pos) Γ (some z) τ := fun y hy B M σ H Q i ok q => by
  obtain rfl : z = y := Option.some.inj hy
  obtain ⟨v, e, r⟩ := ok.val hΓ
  exact wE_of (pe_var hN hv hd hcd) ⟨v, e, q v B H (Gr.refl i.b) r⟩
theorem ev_int {i j} : EVm X (.Constant (.int i) j pos) Γ (some i) tInt := fun y hy B M σ H Q i ok q => wE_of pe_int (q _ B H (Gr.refl i.b) (by cases hy; rfl))
theorem ev_bl {k : Bool} {j} : EVm X (.Constant (.bool k) j pos) Γ (some k) tBool := fun y hy B M σ H Q i ok q => wE_of pe_bl (q _ B H (Gr.refl i.b) (by cases hy; rfl))
theorem ev_str {x : Str} {j} : EVm X (.Constant (.str x) j pos) Γ (some x) tStr := fun y hy B M σ H Q i ok q => wE_of pe_str (q _ B H (Gr.refl i.b) (by cases hy; rfl))
theorem ev_none {α : Type} {τ : Ty α} {j} : EVm X (.Constant .none j pos) Γ (some none) (tOpt τ) := fun y hy B M σ H Q i ok q => wE_of pe_non (q _ B H (Gr.refl i.b) (by cases hy; rfl))
theorem ev_nil {j} : EVm X (.Constant .none j pos) Γ (some ()) tNone := fun y hy B M σ H Q i ok q => wE_of pe_non (q _ B H (Gr.refl i.b) (by cases hy; rfl))
/-- a value where a value or None is wanted -/
theorem ev_opt {α : Type} {m : Option α} {τ : Ty α} [NN τ] (h : EVm X e Γ m τ) : EVm X e Γ (o1 some m) (tOpt τ) := fun y hy B M σ H Q i ok q => by
  obtain ⟨x, hx, rfl⟩ := o1_of hy
  exact h x hx B M σ H Q i ok fun v B' H' g r => q v B' H' g ⟨NN.nn x v B' r, r⟩
/-! arguments -/
theorem ea_nil : EAm X [] Γ (some ()) tNil := fun y hy B M σ H Q i ok q => wA_of pa_nil (q [] B H (Gr.refl i.b) rfl)
theorem ea_one {α : Type} {m : Option α} {τ : Ty α} (h : EVm X e Γ m τ) (hs : starEach [e] X.env = (false, eval e X.env) :: starEach [] X.env := by rfl) : EAm X [e] Γ m (tOne τ) := fun x hx B M σ H Q i ok q =>
  wA_of (pa_cons peW pa_nil hs) (h x hx B M σ H _ i ok fun v B' H' g r => q [v] B' H' g ⟨v, rfl, r⟩)
theorem ea_cons {α β : Type} {m : Option α} {τ : Ty α} {m' : Option β} {ρ : TyT β} (h : EVm X e Γ m τ) (h' : EAm X es Γ m' ρ) (hs : starEach (e :: es) X.env = (false, eval e X.env) :: starEach es X.env := by rfl) : EAm X (e :: es) Γ (a2 m m') (tCons τ ρ) := fun x hx B M σ H Q i ok q => by
  obtain ⟨h1, h2⟩ := a2_of hx
  refine wA_of (pa_cons peW paW hs) (h _ h1 B M σ H _ i ok fun v B1 H1 g1 r1 => ?_)
  exact h' _ h2 B1 M σ H1 _ (i.gr g1) (ok.mono g1.bb) fun vs B2 H2 g2 r2 => q (v :: vs) B2 H2 (g1.trans g2) ⟨v, vs, rfl, τ.mono _ v B1 B2 g2.bb r1, r2⟩
theorem el_nil {α : Type} {τ : Ty α} : ELm X [] Γ (some []) τ := fun y hy => ⟨by cases hy; rfl, fun B M σ H Q i ok q => wA_of pa_nil (q [] B H (Gr.refl i.b) (by cases hy; exact .nil))⟩
theorem el_cons {α : Type} {m : Option α} {τ : Ty α} {m' : Option (List α)} (h : EVm X e Γ m τ) (h' : ELm X es Γ m' τ) (hs : starEach (e :: es) X.env = (false, eval e X.env) :: starEach es X.env := by rfl) : ELm X (e :: es) Γ (o2 (fun x xs => some (x :: xs)) m m') τ := fun x hx => by
  obtain ⟨y, ys, h1, h2, h3⟩ := o2_of hx
  cases h3
  obtain ⟨l2, h2'⟩ := h' _ h2
  refine ⟨by rw [List.length_cons, List.length_cons, l2], fun B M σ H Q i ok q => ?_⟩
  refine wA_of (pa_cons peW paW hs) (h _ h1 B M σ H _ i ok fun v B1 H1 g1 r1 => ?_)
  exact h2' B1 M σ H1 _ (i.gr g1) (ok.mono g1.bb) fun vs B2 H2 g2 r2 => q (v :: vs) B2 H2 (g1.trans g2) (.cons (τ.mono _ v B1 B2 g2.bb r1) r2)
theorem ev_tup {α : Type} {m : Option α} {ρ : TyT α} {x1} (h : EAm X es Γ m ρ) (hl : ρ.len ≤ 100 := by decide) : EVm X (.Tuple es x1 pos) Γ m (tTup X.K ρ) := fun x hx B M σ H Q i ok q => by
  refine wE_of (pe_tup paW) (h x hx B M σ H _ i ok fun vs B' H' g r => ⟨?_, fun p hp => ?_⟩)
  · rw [ρ.hlen _ _ _ r]; exact Nat.le_trans hl (by decide)
  · refine q _ (upd B' p (.tup vs)) _ (g.trans (Gr.alloc g.bh hp)) ⟨p, vs, rfl, SqT.of upd_same, ρ.mono _ _ _ _ (Gr.alloc g.bh hp (o := .tup vs)).bb r⟩
theorem paired_len {α β : Type} {F : α → β → Prop} {xs : List α} {ys : List β} (h : Paired F xs ys) : xs.length = ys.length := Paired.length h
theorem eo_lst {α : Type} {m : Option (List α)} {τ : Ty α} (h : ELm X es Γ m τ) (hl : es.length ≤ 100 := by decide) : EOm X (.List es pos) Γ m (mList X.K τ) := fun x hx B M σ H Q i ok q => by
  obtain ⟨lx, h'⟩ := h x hx
  refine wE_of (pe_lst paW) (h' B M σ H _ i ok fun vs B' H' g r => ⟨?_, fun p hp => ?_⟩)
  · rw [← paired_len r, lx]; exact Nat.le_trans hl (by decide)
  · have hb : B' p = none := by
      cases z : B' p with
      | none => rfl
      | some u => rw [g.bh p u z] at hp; cases hp
    have hh : H p = none := by
      cases z : H p with
      | none => rfl
      | some u => rw [g.hh p u z] at hp; cases hp
    refine q _ B' (sing p (.lst vs)) _ (g.trans (Gr.heap g.bh (same_upd hp))) (fun a o z => ?_) (fun a o z => ?_) ⟨p, vs, rfl, rfl, r⟩
    · obtain ⟨e1, e2⟩ := sing_some z
      subst e1 e2
      exact upd_same
    · obtain ⟨e1, e2⟩ := sing_some z
      subst e1
      exact ⟨hh, hb⟩
/-! operators -/
theorem opT_of {f : Value → Value → Sem Value} {r : R2} (ho : OpR X f r) {α β γ : Type} {τa : Ty α} {τb : Ty β} {τc : Ty γ} {g : α → β → Option γ}
    (h : ∀ x y z, g x y = some z → ∀ v w B H (Q : VK), Same B H → τa.rel x v B → τb.rel y w B → (∀ v' B' H', Gr B H B' H' → τc.rel z v' B' → Q v' H') → r v w H Q) : OpT X f τa τb τc g :=
  fun x y z hz pins s σ v w u t B H Q I sb ra rb rv rw q => ho pins s σ H v w u t Q I rv rw (h x y z hz v w B H Q sb ra rb q)
theorem opII {f : Value → Value → Sem Value} {g : Int → Int → Int} (ho : OpR X f (rI0 fun i j => .int (g i j))) : OpT X f tInt tInt tInt (fun i j => some (g i j)) :=
  opT_of ho fun x y z hz v w B H Q sb ra rb q => ⟨x, y, ra, rb, q _ B H (Gr.refl sb) (by cases hz; rfl)⟩
theorem opIB {f : Value → Value → Sem Value} {g : Int → Int → Bool} (ho : OpR X f (rI0 fun i j => .bl (g i j))) : OpT X f tInt tInt tBool (fun i j => some (g i j)) :=
  opT_of ho fun x y z hz v w B H Q sb ra rb q => ⟨x, y, ra, rb, q _ B H (Gr.refl sb) (by cases hz; rfl)⟩
theorem opIC {f : Value → Value → Sem Value} {C : Int → Int → Prop} {g : Int → Int → Int} {k : Int → Int → Option Int} (ho : OpR X f (rI C fun i j => .int (g i j))) (hk : ∀ i j z, k i j = some z → C i j ∧ g i j = z) : OpT X f tInt tInt tInt k :=
  opT_of ho fun x y z hz v w B H Q sb ra rb q => ⟨x, y, ra, rb, (hk x y z hz).1, q _ B H (Gr.refl sb) (by show V.int (g x y) = V.int z; rw [(hk x y z hz).2])⟩
def mulG (i j : Int) : Option Int := if (-(2 ^ 64) < i ∧ i < 2 ^ 64) ∨ (-(2 ^ 64) < j ∧ j < 2 ^ 64) then some (i * j) else none
def divG (i j : Int) : Option Int := if 0 < j ∧ j < 1073741824 then some (i / j) else none
def modG (i j : Int) : Option Int := if 0 < j then some (i % j) else none
def shlG (i j : Int) : Option Int := if 0 ≤ j ∧ j ≤ 1000000 ∧ i.natAbs < 2 ^ 64 then some (i * 2 ^ j.toNat) else none
def shrG (i j : Int) : Option Int := if 0 ≤ j then some (i / 2 ^ j.toNat) else none
theorem ite_of {α : Type} {c : Prop} [Decidable c] {x z : α} (h : (if c then some x else none) = some z) : c ∧ x = z := by
  by_cases k : c
  · rw [if_pos k] at h; exact ⟨k, Option.some.inj h⟩
  · rw [if_neg k] at h; cases h
theorem ot_add : OpT X (binaryOp .Add) tInt tInt tInt (fun i j => some (i + j)) := opII op_add
theorem ot_sub : OpT X (binaryOp .Sub) tInt tInt tInt (fun i j => some (i - j)) := opII op_sub
theorem ot_mul : OpT X (binaryOp .Mult) tInt tInt tInt mulG := opIC op_mul fun i j z h => ⟨(ite_of h).1, (ite_of h).2⟩
theorem ot_div : OpT X (binaryOp .FloorDiv) tInt tInt tInt divG := opIC op_fdiv fun i j z h => ⟨(ite_of h).1, (ite_of h).2⟩
theorem ot_mod : OpT X (binaryOp .Mod) tInt tInt tInt modG := opIC op_mod fun i j z h => ⟨(ite_of h).1, (ite_of h).2⟩
theorem ot_shl : OpT X (binaryOp .LShift) tInt tInt tInt shlG := opIC op_shl fun i j z h => ⟨(ite_of h).1, (ite_of h).2⟩
theorem ot_shr : OpT X (binaryOp .RShift) tInt tInt tInt shrG := opIC op_shr fun i j z h => ⟨(ite_of h).1, (ite_of h).2⟩
theorem ot_and : OpT X (binaryOp .BitAnd) tInt tInt tInt (fun i j => some (Builtin.bitAnd i j)) := opII op_and
theorem oi_add : OpT X (inplaceOp .Add) tInt tInt tInt (fun i j => some (i + j)) := opII iop_add
theorem oi_sub : OpT X (inplaceOp .Sub) tInt tInt tInt (fun i j => some (i - j)) := opII iop_sub
theorem oc_lt : OpT X (compareOp .Lt) tInt tInt tBool (fun i j => some (decide (i < j))) := opIB op_lt
theorem oc_le : OpT X (compareOp .LtE) tInt tInt tBool (fun i j => some (decide (i ≤ j))) := opIB op_le
theorem oc_gt : OpT X (compareOp .Gt) tInt tInt tBool (fun i j => some (decide (j < i))) := opIB op_gt
theorem oc_ge : OpT X (compareOp .GtE) tInt tInt tBool (fun i j => some (decide (j ≤ i))) := opIB op_ge
theorem oc_eq : OpT X (compareOp .Eq) tInt tInt tBool (fun i j => some (decide (i = j))) :=
  opT_of op_eq fun x y z hz v w B H Q sb ra rb q => by
    cases ra; cases rb; cases hz
    exact ⟨rfl, q _ B H (Gr.refl sb) (by show V.bl _ = V.bl _; congr 1; simp)⟩
theorem oc_ne : OpT X (compareOp .NotEq) tInt tInt tBool (fun i j => some (!decide (i = j))) :=
  opT_of op_ne fun x y z hz v w B H Q sb ra rb q => by
    cases ra; cases rb; cases hz
    exact ⟨rfl, q _ B H (Gr.refl sb) (by show V.bl _ = V.bl _; congr 1; simp)⟩
theorem oc_eqS : OpT X (compareOp .Eq) tStr tStr tBool (fun i j => some (decide (i = j))) :=
  opT_of op_eq fun x y z hz v w B H Q sb ra rb q => by
    cases ra; cases rb; cases hz
    exact ⟨rfl, q _ B H (Gr.refl sb) (by show V.bl _ = V.bl _; congr 1; simp)⟩
theorem oc_neS : OpT X (compareOp .NotEq) tStr tStr tBool (fun i j => some (!decide (i = j))) :=
  opT_of op_ne fun x y z hz v w B H Q sb ra rb q => by
    cases ra; cases rb; cases hz
    exact ⟨rfl, q _ B H (Gr.refl sb) (by show V.bl _ = V.bl _; congr 1; simp)⟩
theorem oc_eqB : OpT X (compareOp .Eq) tBool tBool tBool (fun i j => some (decide (i = j))) :=
  opT_of op_eq fun x y z hz v w B H Q sb ra rb q => by
    cases ra; cases rb; cases hz
    exact ⟨rfl, q _ B H (Gr.refl sb) (by show V.bl _ = V.bl _; congr 1; simp)⟩
theorem oc_neB : OpT X (compareOp .NotEq) tBool tBool tBool (fun i j => some (!decide (i = j))) :=
  opT_of op_ne fun x y z hz v w B H Q sb ra rb q => by
    cases ra; cases rb; cases hz
    exact ⟨rfl, q _ B H (Gr.refl sb) (by show V.bl _ = V.bl _; congr 1; simp)⟩
variable {ma' : Option Int} {α β γ : Type} {τa : Ty α} {τb : Ty β} {τc : Ty γ} {ma : Option α} {mb : Option β} {mc : Option γ}
theorem ev_op {op : Operator} {g : α → β → Option γ} (ho : OpT X (binaryOp op) τa τb τc g) (ha : EVm X a Γ ma τa) (hb : EVm X b Γ mb τb) : EVm X (.BinOp a op b pos) Γ (o2 g ma mb) τc := fun z hz B M σ H Q i ok q => by
  obtain ⟨x, y, h1, h2, h3⟩ := o2_of hz
  intro pins s I
  refine wpAny_BinOp (bin peW peW (R := fun v w H2 => ∃ B2, Gr B H B2 H2 ∧ τa.rel x v B2 ∧ τb.rel y w B2) I ?_ fun v u s2 x' y' H2 I2 rx ry ⟨B2, g2, r1, r2⟩ => ?_)
  · refine ha x h1 B M σ H _ i ok fun v B1 H1 g1 r1 => hb y h2 B1 M σ H1 _ (i.gr g1) (ok.mono g1.bb) fun w B2 H2 g2 r2 => ⟨B2, g1.trans g2, τa.mono _ _ _ _ g2.bb r1, r2⟩
  · exact ho x y z h3 pins s2 σ x' y' v u B2 H2 Q I2 g2.bh r1 r2 rx ry fun v' B' H' g r => q v' B' H' (g2.trans g) r
theorem ec_op {op : CmpOp} {g : α → β → Option Bool} (ho : OpT X (compareOp op) τa τb tBool g) (ha : EVm X a Γ ma τa) (hb : EVm X b Γ mb τb) : ECm X op a b Γ (o2 g ma mb) := fun z hz B M σ H Q i ok q => by
  obtain ⟨x, y, h1, h2, h3⟩ := o2_of hz
  intro pins s I
  refine bin peW peW (R := fun v w H2 => ∃ B2, Gr B H B2 H2 ∧ τa.rel x v B2 ∧ τb.rel y w B2) I ?_ fun v u s2 x' y' H2 I2 rx ry ⟨B2, g2, r1, r2⟩ => ?_
  · refine ha x h1 B M σ H _ i ok fun v B1 H1 g1 r1 => hb y h2 B1 M σ H1 _ (i.gr g1) (ok.mono g1.bb) fun w B2 H2 g2 r2 => ⟨B2, g1.trans g2, τa.mono _ _ _ _ g2.bb r1, r2⟩
  · exact ho x y z h3 pins s2 σ x' y' v u B2 H2 Q I2 g2.bh r1 r2 rx ry fun v' B' H' g r => by
      cases r
      exact q B' H' (g2.trans g)
theorem ec_isN {j pos'} {m : Option (Option α)} (ha : EVm X a Γ m (tOpt τa)) : ECm X .Is a (.Constant .none j pos') Γ (o1 Option.isNone m) := fun z hz B M σ H Q i ok q => by
  obtain ⟨x, h1, rfl⟩ := o1_of hz
  refine wC_of (pc_isN peW) (ha x h1 B M σ H _ i ok fun v B' H' g r => ?_)
  cases x with
  | none =>
    have e : v = .non := r
    subst e
    exact q B' H' g
  | some y =>
    have e : decide (v = .non) = false := decide_eq_false r.1
    show Q (.bl (decide (v = .non))) H'
    rw [e]
    exact q B' H' g
theorem ec_notN {j pos'} {m : Option (Option α)} (ha : EVm X a Γ m (tOpt τa)) : ECm X .IsNot a (.Constant .none j pos') Γ (o1 Option.isSome m) := fun z hz B M σ H Q i ok q => by
  obtain ⟨x, h1, rfl⟩ := o1_of hz
  refine wC_of (pc_notN peW) (ha x h1 B M σ H _ i ok fun v B' H' g r => ?_)
  cases x with
  | none =>
    have e : v = .non := r
    subst e
    exact q B' H' g
  | some y =>
    have e : decide (v = .non) = false := decide_eq_false r.1
    show Q (.bl (!decide (v = .non))) H'
    rw [e]
    exact q B' H' g
theorem ev_cmp {op : CmpOp} {m : Option Bool} (h : ECm X op a b Γ m) (h1 : behindInMarks op b = false := by first | exact nobehind _ (by decide) (by decide) | rfl) : EVm X (.Compare a [op] [b] pos) Γ m tBool := fun z hz B M σ H Q i ok q =>
  wE_of (pe_cmp pcW h1) (h z hz B M σ H _ i ok fun B' H' g => q _ B' H' g rfl)
theorem et_cmp {op : CmpOp} {m : Option Bool} (h : ECm X op a b Γ m) (h1 : behindInMarks op b = false := by first | exact nobehind _ (by decide) (by decide) | rfl) : ETm X (.Compare a [op] [b] pos) Γ m := fun z hz B M σ H Q i ok q =>
  wT_of (pt_cmp pcW h1) (h z hz B M σ H _ i ok fun B' H' g => ⟨z, rfl, q B' H' g⟩)
theorem et_val {m : Option Bool} (h : EVm X e Γ m tBool) (he : ∀ whole, isTrue e X.env whole = (do let v ← whole; standAt e.pos; holding [v] (truthy v)) := by intro _; rfl) : ETm X e Γ m := fun z hz B M σ H Q i ok q =>
  wT_of (pt_val peW he) (h z hz B M σ H _ i ok fun v B' H' g r => ⟨z, r, q B' H' g⟩)
theorem ew_and1 {m : Option Bool} (h : ETm X a Γ m) : EWm X (.BoolOp .And [a] pos) Γ m := fun z hz B M σ H Q i ok q => wW_of (pw_and1 ptW) (h z hz B M σ H Q i ok q)
theorem ew_or1 {m : Option Bool} (h : ETm X a Γ m) : EWm X (.BoolOp .Or [a] pos) Γ m := fun z hz B M σ H Q i ok q => wW_of (pw_or1 ptW) (h z hz B M σ H Q i ok q)
theorem ew_and {m m' : Option Bool} {r : List Expr} (h : ETm X a Γ m) (h' : EWm X (.BoolOp .And (b :: r) pos) Γ m') : EWm X (.BoolOp .And (a :: b :: r) pos) Γ (andO m m') := fun z hz B M σ H Q i ok q => by
  obtain ⟨x, h1, h2⟩ := bind_of hz
  refine wW_of (pw_and ptW pwW) (h x h1 B M σ H _ i ok fun B1 H1 g1 => ?_)
  cases x with
  | true => exact h' z h2 B1 M σ H1 _ (i.gr g1) (ok.mono g1.bb) fun B2 H2 g2 => q B2 H2 (g1.trans g2)
  | false => cases h2; exact q B1 H1 g1
theorem ew_or {m m' : Option Bool} {r : List Expr} (h : ETm X a Γ m) (h' : EWm X (.BoolOp .Or (b :: r) pos) Γ m') : EWm X (.BoolOp .Or (a :: b :: r) pos) Γ (orO m m') := fun z hz B M σ H Q i ok q => by
  obtain ⟨x, h1, h2⟩ := bind_of hz
  refine wW_of (pw_or ptW pwW) (h x h1 B M σ H _ i ok fun B1 H1 g1 => ?_)
  cases x with
  | true => cases h2; exact q B1 H1 g1
  | false => exact h' z h2 B1 M σ H1 _ (i.gr g1) (ok.mono g1.bb) fun B2 H2 g2 => q B2 H2 (g1.trans g2)
theorem et_w {m : Option Bool} (h : EWm X e Γ m) : ETm X e Γ m := fun z hz B M σ H Q i ok q => wT_of pwW.pt (h z hz B M σ H Q i ok q)
theorem et_not {m : Option Bool} (h : ETm X a Γ m) : ETm X (.UnaryOp .Not a pos) Γ (o1 (! ·) m) := fun z hz B M σ H Q i ok q => by
  obtain ⟨x, h1, rfl⟩ := o1_of hz
  exact wT_of (pt_not ptW) (h x h1 B M σ H _ i ok fun B' H' g => q B' H' g)
theorem ev_not {m : Option Bool} (h : EVm X a Γ m tBool) : EVm X (.UnaryOp .Not a pos) Γ (o1 (! ·) m) tBool := fun z hz B M σ H Q i ok q => by
  obtain ⟨x, h1, rfl⟩ := o1_of hz
  exact wE_of (pe_not peW) (h x h1 B M σ H _ i ok fun v B' H' g r => ⟨x, r, q _ B' H' g rfl⟩)
theorem ev_bool1 {op} {m : Option Bool} (h : EVm X a Γ m tBool) : EVm X (.BoolOp op [a] pos) Γ m tBool := fun z hz B M σ H Q i ok q => wE_of (pe_one peW) (h z hz B M σ H Q i ok q)
theorem ev_and {m m' : Option Bool} {r : List Expr} (h : EVm X a Γ m tBool) (h' : EVm X (.BoolOp .And (b :: r) pos) Γ m' tBool) : EVm X (.BoolOp .And (a :: b :: r) pos) Γ (andO m m') tBool := fun z hz B M σ H Q i ok q => by
  obtain ⟨x, h1, h2⟩ := bind_of hz
  refine wE_of (pe_and peW peW) (h x h1 B M σ H _ i ok fun v B1 H1 g1 r1 => ⟨x, r1, ?_⟩)
  cases x with
  | true => exact h' z h2 B1 M σ H1 _ (i.gr g1) (ok.mono g1.bb) fun w B2 H2 g2 r2 => q w B2 H2 (g1.trans g2) r2
  | false => cases h2; exact q _ B1 H1 g1 rfl
theorem ev_or {m m' : Option Bool} {r : List Expr} (h : EVm X a Γ m tBool) (h' : EVm X (.BoolOp .Or (b :: r) pos) Γ m' tBool) : EVm X (.BoolOp .Or (a :: b :: r) pos) Γ (orO m m') tBool := fun z hz B M σ H Q i ok q => by
  obtain ⟨x, h1, h2⟩ := bind_of hz
  refine wE_of (pe_or peW peW) (h x h1 B M σ H _ i ok fun v B1 H1 g1 r1 => ⟨x, r1, ?_⟩)
  cases x with
  | true => cases h2; exact q _ B1 H1 g1 rfl
  | false => exact h' z h2 B1 M σ H1 _ (i.gr g1) (ok.mono g1.bb) fun w B2 H2 g2 r2 => q w B2 H2 (g1.trans g2) r2
theorem ev_ifE {mt : Option Bool} {m m' : Option α} (ht : ETm X c Γ mt) (h : EVm X a Γ m τa) (h' : EVm X b Γ m' τa) : EVm X (.IfExp c a b pos) Γ (mt.bind fun k => if k = true then m else m') τa := fun z hz B M σ H Q i ok q => by
  obtain ⟨x, h1, h2⟩ := bind_of hz
  refine wE_of (pe_ifExp ptW peW peW) (ht x h1 B M σ H _ i ok fun B1 H1 g1 => ?_)
  cases x with
  | true => exact h z h2 B1 M σ H1 _ (i.gr g1) (ok.mono g1.bb) fun w B2 H2 g2 r2 => q w B2 H2 (g1.trans g2) r2
  | false => exact h' z h2 B1 M σ H1 _ (i.gr g1) (ok.mono g1.bb) fun w B2 H2 g2 r2 => q w B2 H2 (g1.trans g2) r2
theorem ev_neg (h : EVm X a Γ ma' tInt) : EVm X (.UnaryOp .USub a pos) Γ (o1 (fun i => -i) ma') tInt := fun z hz B M σ H Q i ok q => by
  obtain ⟨x, h1, rfl⟩ := o1_of hz
  exact wE_of (pe_un un_neg peW) (h x h1 B M σ H _ i ok fun v B' H' g r => ⟨x, r, q _ B' H' g rfl⟩)
/-! attributes -/
structure FldOk (K : PySem.W.Frag) (τo : Ty α) (nm : Str) (τ : Ty β) (h : α → β) : Prop where
  get : ∀ x v B, τo.rel x v B → ∃ a C dx fs w, v = .ref a ∧ B a = some (.ins C dx fs) ∧ Cls K C ∧ NoAttr K C nm ∧ fs.lookup nm = some w ∧ τ.rel (h x) w B
theorem ev_fld {nm : Str} {h : α → β} (hf : FldOk X.K τa nm τb h) (he : EVm X e Γ ma τa) (hb : attributeBase e nm X.env (eval e X.env) = eval e X.env := by rfl) : EVm X (.Attribute e nm pos) Γ (o1 h ma) τb := fun z hz B M σ H Q i ok q => by
  obtain ⟨x, h1, rfl⟩ := o1_of hz
  refine wE_of (pe_fld peW hb) (he x h1 B M σ H _ i ok fun v B' H' g r => ?_)
  obtain ⟨a, C, dx, fs, w, e, ea, c, n, l, r'⟩ := hf.get x v B' r
  exact ⟨a, C, dx, fs, w, e, g.bh _ _ ea, c, n, l, q w B' H' g r'⟩
/-- the j-th thing of a tuple -/
structure TAt (ρ : TyT α) (j : Nat) (τ : Ty β) (g : α → β) : Prop where
  get : ∀ x vs B, ρ.rel x vs B → ∃ v, vs[j]? = some v ∧ τ.rel (g x) v B
theorem at_one : TAt (tOne τa) 0 τa (fun x => x) := ⟨fun x vs B ⟨v, e, r⟩ => ⟨v, by rw [e]; rfl, r⟩⟩
theorem at_zero {ρ : TyT β} : TAt (tCons τa ρ) 0 τa Prod.fst := ⟨fun x vs B ⟨v, ws, e, r, _⟩ => ⟨v, by rw [e]; rfl, r⟩⟩
theorem at_succ {ρ : TyT β} {j : Nat} {g : β → γ} (h : TAt ρ j τc g) : TAt (tCons τa ρ) (j + 1) τc (fun x => g x.2) := ⟨fun x vs B ⟨v, ws, e, r, q⟩ => by
  obtain ⟨u, h1, h2⟩ := h.get x.2 ws B q
  exact ⟨u, by rw [e]; exact h1, h2⟩⟩
theorem zip_look {f : Str} {v : V} : ∀ {names : List Str} {vs : List V} {j : Nat}, names.Nodup → names[j]? = some f → vs[j]? = some v → (names.zip vs).lookup f = some v
  | [], _, _, _, h, _ => by simp at h
  | _ :: _, [], _, _, _, h => by simp at h
  | n :: names, u :: vs, 0, nd, h, k => by
    simp at h k
    subst h k
    simp [List.zip_cons_cons, List.lookup_cons]
  | n :: names, u :: vs, j + 1, nd, h, k => by
    have h' : names[j]? = some f := by simpa using h
    have k' : vs[j]? = some v := by simpa using k
    have hn : f ≠ n := fun e => (List.nodup_cons.mp nd).1 (by rw [← e]; exact List.mem_of_getElem? h')
    rw [List.zip_cons_cons, List.lookup_cons]
    rw [show (f == n) = false from beq_eq_false_iff_ne.mpr hn]
    exact zip_look (List.nodup_cons.mp nd).2 h' k'
theorem fldOk {K : PySem.W.Frag} {C : Addr} {names : List Str} {sf : α → List Slot} {j : Nat} {nm : Str} {h : α → β} (c : Cls K C) (n : NoAttr K C nm) (nd : names.Nodup) (hj : names[j]? = some nm) (hs : ∀ x, sl (sf x) j = .val (τb.P (h x))) :
    FldOk K (tObj C names sf) nm τb h := ⟨fun x v B ⟨a, dx, vs, e, s, l, k⟩ => by
  obtain ⟨w, h1, h2⟩ := k.val (hs x)
  have h1' : vs[j]? = some w := by
    rw [List.getElem?_map] at h1
    cases q : vs[j]? with
    | none => rw [q] at h1; cases h1
    | some u => rw [q] at h1; cases h1; rfl
  exact ⟨a, C, dx, _, w, e, s, c, n, zip_look nd hj h1', h2⟩⟩
end
end G
/-! G3: promises, calls, statements, loops. -/
namespace G
open PySem L2

/-! ### promises -/
def spF {α β : Type} (ρ : TyT α) (fm : α → Option β) (τ : Ty β) : Sp := fun vs H Q _ => ∃ B x y, Same B H ∧ ρ.rel x vs B ∧ fm x = some y ∧ ∀ v B' H', Gr B H B' H' → τ.rel y v B' → Q v H'
/-- the result is new and owned -/
def spO {α β : Type} (ρ : TyT α) (fm : α → Option β) (μ : β → MO) : Sp := fun vs H Q _ => ∃ B x y, Same B H ∧ ρ.rel x vs B ∧ fm x = some y ∧
  ∀ v B' M' H', Gr B H B' H' → Same M' H' → (∀ a o, M' a = some o → H a = none ∧ B' a = none) → (μ y).p v B' M' → Q v H'
/-- the first argument is owned, and changes -/
def spM {γ α β : Type} (χ : γ → MO) (ρ : TyT α) (fm : γ → α → Option (γ × β)) (τ : Ty β) : Sp := fun vs H Q _ => ∃ B M g x r u ws, vs = u :: ws ∧ In B M H ∧ (χ g).p u B M ∧ ρ.rel x ws B ∧ fm g x = some r ∧
  ∀ v B' M' H', Stp B M H B' M' H' → (χ r.1).p u B' M' → τ.rel r.2 v B' → Q v H'
/-- __init__: a bare instance comes, and an owned thing goes -/
def spI {α β : Type} (C : Addr) (ρ : TyT α) (im : α → Option β) (μ : β → MO) : Sp := fun vs H Q _ => ∃ B M x y u ws, vs = u :: ws ∧ In B M H ∧ (mObj C [] []).p u B M ∧ ρ.rel x ws B ∧ im x = some y ∧
  ∀ B' M' H', Stp B M H B' M' H' → (μ y).p u B' M' → Q .non H'
section
variable (P : Program) (w : World) (K : PySem.W.Frag) (mg : Str → Option Value) (base : Heap)
def Dfn (nm : Str) (k : Nat) (ds : List V) (sp : Sp) : Prop := ∃ f fd ps dv, mg nm = some (.ref f) ∧ PySem.W.keepIn K (.ref f) = true ∧ Binds K fd ps dv ∧ Vals ds dv ∧ FnOk P w K mg base CX0 k f fd ps sp
def Mth (C : Addr) (nm : Str) (k : Nat) (ds : List V) (sp : Sp) : Prop := ∃ f fd ps dv, Cls K C ∧ Meth K C nm f ∧ Binds K fd ps dv ∧ Vals ds dv ∧ FnOk P w K mg base CX0 k f fd ps sp
def Mak (cn : Str) (C : Addr) (k : Nat) (ds : List V) (sp : Sp) : Prop := ∃ f fd ps dv, mg cn = some (.ref C) ∧ Mk K C f ∧ Binds K fd ps dv ∧ Vals ds dv ∧ FnOk P w K mg base CX0 k f fd ps sp
end

section
variable {X : Cx} {Γ : List Slot} {e a b c : Expr} {es : List Expr} {pos p apos : Pos} {nm : Str} {k : Nat} {α β γ δ : Type}
theorem ev_callD {ρ : TyT α} {ρ' : TyT δ} {fm : α → Option β} {τ : Ty β} {ds : List V} {m : Option δ} (ext : δ → α) (D : Dfn X.prog X.w X.K X.mg X.base nm k ds (spF ρ fm τ)) (hx : ∀ x vs B, ρ'.rel x vs B → ρ.rel (ext x) (vs ++ ds) B) (hr : Room k X.A) (hg : Gl X nm) (ha : EAm X (e :: es) Γ m ρ')
    (hdb : (nm == ("__debug__" : Str)) = false := by decide) (he : starEach (e :: es) X.env = (false, eval e X.env) :: starEach es X.env := by rfl) (hpl : (backTo pos (starEach es X.env)).any (·.1) = false := by rfl) :
    EVm X (.Call (.Name nm p) (e :: es) [] pos) Γ (m.bind fun x => fm (ext x)) τ := fun z hz B M σ H Q i ok q => by
  obtain ⟨x, h1, h2⟩ := bind_of hz
  obtain ⟨f, fd, ps, dv, mgn, kp, bi, vd, F⟩ := D
  refine wE_of (pe_call F hr hg mgn kp bi vd pass0 paW hdb he hpl) (ha x h1 B M σ H _ i ok fun vs B1 H1 g1 r1 => ?_)
  exact ⟨B1, ext x, z, g1.bh, hx x vs B1 r1, h2, fun v B2 H2 g2 r2 => q v B2 H2 (g1.trans g2) r2⟩
theorem ev_call {ρ : TyT α} {fm : α → Option β} {τ : Ty β} {m : Option α} (D : Dfn X.prog X.w X.K X.mg X.base nm k [] (spF ρ fm τ)) (hr : Room k X.A) (hg : Gl X nm) (ha : EAm X (e :: es) Γ m ρ)
    (hdb : (nm == ("__debug__" : Str)) = false := by decide) (he : starEach (e :: es) X.env = (false, eval e X.env) :: starEach es X.env := by rfl) (hpl : (backTo pos (starEach es X.env)).any (·.1) = false := by rfl) :
    EVm X (.Call (.Name nm p) (e :: es) [] pos) Γ (m.bind fm) τ := ev_callD (fun x => x) D (fun x vs B r => by rw [List.append_nil]; exact r) hr hg ha hdb he hpl
theorem eo_call {ρ : TyT α} {fm : α → Option β} {μ : β → MO} {m : Option α} (D : Dfn X.prog X.w X.K X.mg X.base nm k [] (spO ρ fm μ)) (hr : Room k X.A) (hg : Gl X nm) (ha : EAm X (e :: es) Γ m ρ)
    (hdb : (nm == ("__debug__" : Str)) = false := by decide) (he : starEach (e :: es) X.env = (false, eval e X.env) :: starEach es X.env := by rfl) (hpl : (backTo pos (starEach es X.env)).any (·.1) = false := by rfl) :
    EOm X (.Call (.Name nm p) (e :: es) [] pos) Γ (m.bind fm) μ := fun z hz B M σ H Q i ok q => by
  obtain ⟨x, h1, h2⟩ := bind_of hz
  obtain ⟨f, fd, ps, dv, mgn, kp, bi, vd, F⟩ := D
  refine wE_of (pe_call F hr hg mgn kp bi vd pass0 paW hdb he hpl) (ha x h1 B M σ H _ i ok fun vs B1 H1 g1 r1 => ?_)
  cases vd
  refine ⟨B1, x, z, g1.bh, by rw [List.append_nil]; exact r1, h2, fun v B2 M2 H2 g2 s2 n2 r2 => q v B2 M2 H2 (g1.trans g2) s2 (fun a o h => ⟨?_, (n2 a o h).2⟩) r2⟩
  cases z : H a with
  | none => rfl
  | some u => have := g1.hh a u z; rw [(n2 a o h).1] at this; cases this
/-- an instance of the class at C that has no attribute m -/
def IsIns (τ : Ty α) (C : Addr) (m : Str) : Prop := ∀ x v B, τ.rel x v B → ∃ a dx fs, v = .ref a ∧ B a = some (.ins C dx fs) ∧ fs.lookup m = none
theorem zip_none {f : Str} : ∀ {names : List Str} {vs : List V}, f ∉ names → (names.zip vs).lookup f = none
  | [], _, _ => rfl
  | _ :: _, [], _ => rfl
  | n :: names, u :: vs, h => by
    rw [List.zip_cons_cons, List.lookup_cons, show (f == n) = false from beq_eq_false_iff_ne.mpr (fun e => h (by rw [e]; exact List.mem_cons_self ..))]
    exact zip_none fun q => h (List.mem_cons_of_mem _ q)
theorem isIns {C : Addr} {names : List Str} {sf : α → List Slot} {m : Str} (h : m ∉ names) : IsIns (tObj C names sf) C m := fun x v B ⟨a, dx, vs, e, s, _, _⟩ => ⟨a, dx, _, e, s, zip_none h⟩
theorem ev_meth {C : Addr} {τs : Ty γ} {ρ : TyT α} {fm : γ × α → Option β} {τ : Ty β} {ms : Option γ} {m : Option α} {pl : Sem Bool} (D : Mth X.prog X.w X.K X.mg X.base C nm k [] (spF (tCons τs ρ) fm τ)) (hi : IsIns τs C nm) (hr : Room k X.A) (ho : EVm X a Γ ms τs) (ha : EAm X (e :: es) Γ m ρ)
    (hst : starEach (e :: es) X.env = (false, eval e X.env) :: starEach es X.env := by rfl) (hpl : (backTo pos (starEach es X.env)).any (·.1) = false := by rfl)
    (ht : eval (.Call (.Attribute a nm apos) (e :: es) [] pos) X.env = (do
      let ov ← eval a X.env
      standAt apos.atName
      let (f, first) ← holding [ov] (getMethod ov nm pl)
      callWith pos f first (backTo pos (starEach (e :: es) X.env)) (backToKw pos (keywordEach [] X.env))) := by rfl) :
    EVm X (.Call (.Attribute a nm apos) (e :: es) [] pos) Γ ((a2 ms m).bind fm) τ := fun z hz B M σ H Q i ok q => by
  obtain ⟨x, h1, h2⟩ := bind_of hz
  obtain ⟨h3, h4⟩ := a2_of h1
  obtain ⟨f, fd, ps, dv, hc, me, bi, vd, F⟩ := D
  refine wE_of (pe_meth peW hc me F hr bi vd pass0 paW hst hpl ht) (ho x.1 h3 B M σ H _ i ok fun v B1 H1 g1 r1 => ?_)
  obtain ⟨a, dx, fs, e1, e2, e3⟩ := hi x.1 v B1 r1
  refine ⟨a, dx, fs, e1, g1.bh _ _ e2, e3, ?_⟩
  refine ha x.2 h4 B1 M σ H1 _ (i.gr g1) (ok.mono g1.bb) fun vs B2 H2 g2 r2 => ?_
  cases vd
  rw [List.append_nil]
  exact ⟨B2, x, z, g2.bh, ⟨v, vs, rfl, τs.mono _ v _ _ g2.bb r1, r2⟩, h2, fun v' B3 H3 g3 r3 => q v' B3 H3 ((g1.trans g2).trans g3) r3⟩
theorem ev_meth0 {C : Addr} {τs : Ty γ} {fm : γ → Option β} {τ : Ty β} {ms : Option γ} {pl : Sem Bool} (D : Mth X.prog X.w X.K X.mg X.base C nm k [] (spF (tOne τs) fm τ)) (hi : IsIns τs C nm) (hr : Room k X.A) (ho : EVm X a Γ ms τs)
    (ht : eval (.Call (.Attribute a nm apos) [] [] pos) X.env = (do
      let ov ← eval a X.env
      standAt apos.atName
      let (f, first) ← holding [ov] (getMethod ov nm pl)
      callWith pos f first (backTo pos (starEach [] X.env)) (backToKw pos (keywordEach [] X.env))) := by rfl) :
    EVm X (.Call (.Attribute a nm apos) [] [] pos) Γ (ms.bind fm) τ := fun z hz B M σ H Q i ok q => by
  obtain ⟨x, h1, h2⟩ := bind_of hz
  obtain ⟨f, fd, ps, dv, hc, me, bi, vd, F⟩ := D
  refine wE_of (pe_meth0 peW hc me F hr bi vd pass0 ht) (ho x h1 B M σ H _ i ok fun v B1 H1 g1 r1 => ?_)
  obtain ⟨a, dx, fs, e1, e2, e3⟩ := hi x v B1 r1
  refine ⟨a, dx, fs, e1, g1.bh _ _ e2, e3, ?_⟩
  cases vd
  exact ⟨B1, x, z, g1.bh, ⟨v, rfl, r1⟩, h2, fun v' B3 H3 g3 r3 => q v' B3 H3 (g1.trans g3) r3⟩
/-- C(..): a new owned instance -/
theorem eo_make {C : Addr} {ρ : TyT α} {ρ' : TyT δ} {im : α → Option β} {μ : β → MO} {ds : List V} {m : Option δ} (ext : δ → α) (D : Mak X.prog X.w X.K X.mg X.base nm C k ds (spI C ρ im μ)) (hx : ∀ x vs B, ρ'.rel x vs B → ρ.rel (ext x) (vs ++ ds) B) (hr : Room (k + 1) X.A) (hg : Gl X nm) (ha : EAm X (e :: es) Γ m ρ')
    (hdb : (nm == ("__debug__" : Str)) = false := by decide) (he : starEach (e :: es) X.env = (false, eval e X.env) :: starEach es X.env := by rfl) (hpl : (backTo pos (starEach es X.env)).any (·.1) = false := by rfl) :
    EOm X (.Call (.Name nm p) (e :: es) [] pos) Γ (m.bind fun x => im (ext x)) μ := fun z hz B M σ H Q i ok q => by
  obtain ⟨x, h1, h2⟩ := bind_of hz
  obtain ⟨f, fd, ps, dv, mgn, mk, bi, vd, F⟩ := D
  refine wE_of (pe_make mk F hr hg mgn bi vd pass0 paW hdb he hpl) (ha x h1 B M σ H _ i ok fun vs B1 H1 g1 r1 => ?_)
  intro u dx hu hdx hne
  have hBu : ∀ (a : Addr), H1 a = none → B1 a = none := fun a h => by
    cases z : B1 a with
    | none => rfl
    | some o => rw [g1.bh a o z] at h; cases h
  have hH : ∀ (a : Addr), H1 a = none → H a = none := fun a h => by
    cases z : H a with
    | none => rfl
    | some o => rw [g1.hh a o z] at h; cases h
  have s1 : Same H1 (upd (upd H1 dx (.own u)) u (.ins C dx [])) := fun a o h => by
    rw [upd_ne (ne_of_none h hu), upd_ne (ne_of_none h hdx)]
    exact h
  have i2 : In B1 (sing u (.ins C dx [])) (upd (upd H1 dx (.own u)) u (.ins C dx [])) := by
    refine ⟨g1.bh.trans s1, fun a o h => ?_, fun a o h => ?_⟩
    · obtain ⟨e1, e2⟩ := sing_some h
      subst e1 e2
      exact upd_same
    · obtain ⟨e1, e2⟩ := sing_some h
      subst e1
      exact hBu _ hu
  refine ⟨B1, sing u (.ins C dx []), ext x, z, .ref u, vs ++ ds, rfl, i2, ?_, hx x vs B1 r1, h2, fun B2 M2 H2 st r => ⟨rfl, ?_⟩⟩
  · exact ⟨u, dx, [], emp, rfl, (un_emp _).symm, (Dj.emp _).symm, rfl, rfl⟩
  · have hn : ∀ a o, H1 a = some o → sing u (.ins C dx []) a = none := fun a o h => sing_ne (ne_of_none h hu)
    have gg : Gr B1 H1 B2 H2 := ⟨st.bb, fun a o h => st.fr a o (s1 a o h) (hn a o h), st.i.b, fun a o h nb => st.newB a o (s1 a o h) nb (hn a o h)⟩
    refine q (.ref u) B2 M2 H2 (g1.trans gg) st.i.m (fun a o h => ⟨?_, st.i.dj a o h⟩) r
    refine hH a ?_
    cases z : H1 a with
    | none => rfl
    | some o' => rw [st.newM a o' (s1 a o' z) (hn a o' z)] at h; cases h
end

/-! ### statements -/
inductive Oc where
  | nx (Γ : List Slot)
  | bk (Γ : List Slot)
  | ct (Γ : List Slot)
  | rt (post : V → Hp → Hp → Prop)
  | fn (post : V → Hp → Hp → Prop)
  | dead
def Cont (c : Oc) (D : Ends) (B M H : Hp) : Prop := match c with
  | .nx Γ => ∀ σ' B' M' H', Stp B M H B' M' H' → OkS Γ σ' B' M' → D.nx σ' H'
  | .bk Γ => ∀ σ' B' M' H', Stp B M H B' M' H' → OkS Γ σ' B' M' → D.bk σ' H'
  | .ct Γ => ∀ σ' B' M' H', Stp B M H B' M' H' → OkS Γ σ' B' M' → D.ct σ' H'
  | .rt post => ∀ v B' M' H', Stp B M H B' M' H' → post v B' M' → D.rt v H'
  | .fn post => (∀ v B' M' H', Stp B M H B' M' H' → post v B' M' → D.rt v H') ∧ ∀ σ' B' M' H', Stp B M H B' M' H' → post .non B' M' → D.nx σ' H'
  | .dead => True
theorem Cont.step {c : Oc} {D : Ends} {B M H B' M' H' : Hp} (s : Stp B M H B' M' H') (h : Cont c D B M H) : Cont c D B' M' H' := by
  cases c with
  | nx Γ => exact fun σ B1 M1 H1 t k => h σ B1 M1 H1 (s.trans t) k
  | bk Γ => exact fun σ B1 M1 H1 t k => h σ B1 M1 H1 (s.trans t) k
  | ct Γ => exact fun σ B1 M1 H1 t k => h σ B1 M1 H1 (s.trans t) k
  | rt p => exact fun v B1 M1 H1 t k => h v B1 M1 H1 (s.trans t) k
  | fn p => exact ⟨fun v B1 M1 H1 t k => h.1 v B1 M1 H1 (s.trans t) k, fun σ B1 M1 H1 t k => h.2 σ B1 M1 H1 (s.trans t) k⟩
  | dead => trivial
def Oc.ret : Oc → Option (V → Hp → Hp → Prop)
  | .rt p => some p
  | .fn p => some p
  | _ => none
theorem Cont.ret {c : Oc} {D : Ends} {B M H : Hp} {post : V → Hp → Hp → Prop} (hc : c.ret = some post) (h : Cont c D B M H) : ∀ v B' M' H', Stp B M H B' M' H' → post v B' M' → D.rt v H' := by
  cases c with
  | rt p => cases hc; exact h
  | fn p => cases hc; exact h.1
  | nx Γ => cases hc
  | bk Γ => cases hc
  | ct Γ => cases hc
  | dead => cases hc
/-- a branch that does not come to its end -/
def noNx : Oc → Oc
  | .nx _ => .dead
  | .fn p => .rt p
  | c => c
theorem Cont.noNx {c : Oc} {D : Ends} {B M H : Hp} {N : L2.St → Hp → Prop} (h : Cont c D B M H) : Cont (G.noNx c) { D with nx := N } B M H := by
  cases c with
  | nx Γ => trivial
  | bk Γ => exact h
  | ct Γ => exact h
  | rt p => exact h
  | fn p => exact h.1
  | dead => trivial

/-- the block runs, and ends as o tells, wherever m is o -/
def BL (X : Cx) (sts : List Stmt) (Γ : List Slot) {O : Type} (m : Option O) (J : O → Oc) : Prop := ∀ o, m = some o → ∀ B M σ H (D : Ends), In B M H → OkS Γ σ B M → Cont (J o) D B M H → wSs X sts D σ H
section
variable {X : Cx} {Γ Γ' : List Slot} {e a b c tg : Expr} {es : List Expr} {pos p pos' : Pos} {rest : List Stmt} {st : Stmt} {O : Type} {J : O → Oc} {α β γ δ S R : Type}
theorem bl_nil {o : O} (hs : Sub Γ Γ') (hJ : J o = .nx Γ') : BL X [] Γ (some o) J := fun o' ho B M σ H D i ok k => by
  obtain rfl := Option.some.inj ho
  rw [hJ] at k
  obtain ⟨M', s, ok'⟩ := ok.sub hs
  exact wSs_of pss_nil (k σ B M' H (Stp.drop i s) ok')
/-- a def's end without return -/
theorem bl_end {o : O} {post : V → Hp → Hp → Prop} (hJ : J o = .fn post) (hp : ∀ σ B M, OkS Γ σ B M → ∃ M', Same M' M ∧ post .non B M') : BL X [] Γ (some o) J := fun o' ho B M σ H D i ok k => by
  obtain rfl := Option.some.inj ho
  rw [hJ] at k
  obtain ⟨M', s, h⟩ := hp σ B M ok
  exact wSs_of pss_nil (k.2 σ B M' H (Stp.drop i s) h)
theorem wSs_cons {D : Ends} {σ : L2.St} {H : Hp} (h : wS X st { D with nx := wSs X rest D } σ H) : wSs X (st :: rest) D σ H := wSs_of (pss_cons psW pssW) h
theorem bl_asg {i : Nat} {x : Str} {m : Option α} {τ : Ty α} {k : α → Option O} (hN : X.N.Nodup) (hi : X.N[i]? = some x) (hx : Loc X.env.scope x) (he : EVm X e Γ m τ) (hr : ∀ y, BL X rest (G.st Γ i (.val (τ.P y))) (k y) J)
    (hs : swapsWith e (some (.Name x pos')) pos.line X.env = pure false := by rfl) (hf : X.fn x = true ∨ X.env.scope.names.lookup x = some .local := by first | exact .inl rfl | exact .inr rfl | assumption) : BL X (.Assign [.Name x pos'] e pos :: rest) Γ (m.bind k) J := fun o ho B M σ H D inn ok kk => by
  obtain ⟨y, h1, h2⟩ := bind_of ho
  refine wSs_cons (wS_of (ps_set hN hi hx peW hs hf) (he y h1 B M σ H _ inn ok fun v B1 H1 g1 r1 => ?_))
  obtain ⟨M', s, ok'⟩ := (ok.mono g1.bb).set (i := i) (φ := τ.P y) r1
  have s1 := Stp.gr inn g1
  have s2 := s1.trans (Stp.drop s1.i s)
  exact hr y o h2 B1 M' _ H1 D s2.i ok' (kk.step s2)
theorem bl_asgO {i : Nat} {x : Str} {m : Option α} {μ : α → MO} {k : α → Option O} (hN : X.N.Nodup) (hi : X.N[i]? = some x) (hx : Loc X.env.scope x) (hl : i < Γ.length) (he : EOm X e Γ m μ) (hr : ∀ y, BL X rest (G.st Γ i (.own (μ y))) (k y) J)
    (hs : swapsWith e (some (.Name x pos')) pos.line X.env = pure false := by rfl) (hf : X.fn x = true ∨ X.env.scope.names.lookup x = some .local := by first | exact .inl rfl | exact .inr rfl | assumption) : BL X (.Assign [.Name x pos'] e pos :: rest) Γ (m.bind k) J := fun o ho B M σ H D inn ok kk => by
  obtain ⟨y, h1, h2⟩ := bind_of ho
  refine wSs_cons (wS_of (ps_set hN hi hx peW hs hf) (he y h1 B M σ H _ inn ok fun v B1 N1 H1 g1 n1 n2 r1 => ?_))
  have s1 := Stp.gr inn g1
  have dN : Dj N1 M := fun a o h => by
    cases z : M a with
    | none => rfl
    | some u => have := (n2 a o h).1; rw [inn.m a u z] at this; cases this
  obtain ⟨M', s, ok'⟩ := (ok.mono g1.bb).setOwn (i := i) r1 dN hl
  have i2 : In B1 (un N1 M') H1 := ⟨g1.bh, same_un n1 (s.trans (inn.m.trans g1.hh)), Dj.un (fun a o h => (n2 a o h).2) (s1.i.dj.sub s)⟩
  refine hr y o h2 B1 (un N1 M') _ H1 D i2 ok' (kk.step ⟨g1.bb, i2, fun a o h _ => g1.hh a o h, fun a o h nb _ => g1.new a o h nb, fun a o h nm => un_none.mpr ⟨?_, ?_⟩⟩)
  · cases z : N1 a with
    | none => rfl
    | some u => rw [(n2 a u z).1] at h; cases h
  · cases z : M' a with
    | none => rfl
    | some u => rw [s a u z] at nm; cases nm
/-- return e -/
theorem bl_ret {m : Option α} {τ : Ty α} {g : α → O} {post : α → V → Hp → Hp → Prop} (hJ : ∀ x, (J (g x)).ret = some (post x)) (hp : ∀ x v σ B M, OkS Γ σ B M → τ.rel x v B → ∃ M', Same M' M ∧ post x v B M') (he : EVm X e Γ m τ) :
    BL X (.Return (some e) pos :: rest) Γ (m.bind fun x => some (g x)) J := fun o ho B M σ H D i ok k => by
  obtain ⟨y, h1, h2⟩ := bind_of ho
  obtain rfl := Option.some.inj h2
  refine wSs_cons (wS_of (ps_ret peW) (he y h1 B M σ H _ i ok fun v B1 H1 g1 r1 => ?_))
  obtain ⟨M', s, pp⟩ := hp y v σ B1 M (ok.mono g1.bb) r1
  have s1 := Stp.gr i g1
  exact k.ret (hJ y) v B1 M' H1 (s1.trans (Stp.drop s1.i s)) pp
/-- .. of a def that owns nothing behind -/
theorem bl_retF {J : α → Oc} {m : Option α} {τ : Ty α} (hJ : ∀ x, (J x).ret = some (fun v B (_ : Hp) => τ.rel x v B)) (he : EVm X e Γ m τ) : BL X (.Return (some e) pos :: rest) Γ m J := fun o ho => by
  have := bl_ret (pos := pos) (rest := rest) (g := fun x => x) hJ (fun x v σ B M _ r => ⟨M, Same.refl _, r⟩) he o
  exact this (by rw [ho]; rfl)
theorem bl_if {ia ib : List Stmt} {mc : Option Bool} {ma mb : Option S} {Γj : S → List Slot} {k : S → Option O} (hc : ETm X c Γ mc) (ha : BL X ia Γ ma fun s => .nx (Γj s)) (hb : BL X ib Γ mb fun s => .nx (Γj s)) (hr : ∀ s, BL X rest (Γj s) (k s) J) :
    BL X (.If c ia ib pos :: rest) Γ (mc.bind fun z => (if z = true then ma else mb).bind k) J := fun o ho B M σ H D i ok kk => by
  obtain ⟨z, h1, h2⟩ := bind_of ho
  obtain ⟨s, h3, h4⟩ := bind_of h2
  refine wSs_cons (wS_of (ps_if ptW pssW pssW) (hc z h1 B M σ H _ i ok fun B1 H1 g1 => ?_))
  have s1 := Stp.gr i g1
  have fin : Cont (.nx (Γj s)) { D with nx := wSs X rest D } B1 M H1 := fun σ' B' M' H' st' ok' => hr s o h4 B' M' σ' H' D st'.i ok' (kk.step (s1.trans st'))
  cases z with
  | true => exact ha s h3 B1 M σ H1 _ s1.i (ok.mono g1.bb) fin
  | false => exact hb s h3 B1 M σ H1 _ s1.i (ok.mono g1.bb) fin
/-- the first branch does not come to its end -/
theorem bl_ifx {ia : List Stmt} {mc : Option Bool} {ma mr : Option O} (hc : ETm X c Γ mc) (ha : BL X ia Γ ma fun o => noNx (J o)) (hr : BL X rest Γ mr J) : BL X (.If c ia [] pos :: rest) Γ (mc.bind fun z => if z = true then ma else mr) J := fun o ho B M σ H D i ok kk => by
  obtain ⟨z, h1, h2⟩ := bind_of ho
  refine wSs_cons (wS_of (ps_if ptW pssW pssW) (hc z h1 B M σ H _ i ok fun B1 H1 g1 => ?_))
  have s1 := Stp.gr i g1
  cases z with
  | true => exact ha o h2 B1 M σ H1 _ s1.i (ok.mono g1.bb) (kk.step s1).noNx
  | false => exact wSs_of pss_nil (hr o h2 B1 M σ H1 D s1.i (ok.mono g1.bb) (kk.step s1))
theorem cont_nx {c : Oc} {D : Ends} {B M H : Hp} (h : Cont c D B M H) : Cont c { D with nx := wSs X [] D } B M H := by
  cases c with
  | nx Γ => exact fun σ' B' M' H' s k => wSs_of pss_nil (h σ' B' M' H' s k)
  | bk Γ => exact h
  | ct Γ => exact h
  | rt p => exact h
  | fn p => exact ⟨h.1, fun σ' B' M' H' s k => wSs_of pss_nil (h.2 σ' B' M' H' s k)⟩
  | dead => trivial
/-- an if that ends the block -/
theorem bl_ifl {ia ib : List Stmt} {mc : Option Bool} {ma mb : Option O} (hc : ETm X c Γ mc) (ha : BL X ia Γ ma J) (hb : BL X ib Γ mb J) : BL X [.If c ia ib pos] Γ (mc.bind fun z => if z = true then ma else mb) J := fun o ho B M σ H D i ok kk => by
  obtain ⟨z, h1, h2⟩ := bind_of ho
  refine wSs_cons (wS_of (ps_if ptW pssW pssW) (hc z h1 B M σ H _ i ok fun B1 H1 g1 => ?_))
  have s1 := Stp.gr i g1
  cases z with
  | true => exact ha o h2 B1 M σ H1 _ s1.i (ok.mono g1.bb) (cont_nx (kk.step s1))
  | false => exact hb o h2 B1 M σ H1 _ s1.i (ok.mono g1.bb) (cont_nx (kk.step s1))
theorem bl_pass {m : Option O} (hr : BL X rest Γ m J) : BL X (.Pass pos :: rest) Γ m J := fun o ho B M σ H D i ok kk => wSs_cons (wS_of ps_pass (hr o ho B M σ H D i ok kk))
theorem bl_doc {x : Str} {j} {m : Option O} (hr : BL X rest Γ m J) : BL X (.Expr (.Constant (.str x) j pos) pos' :: rest) Γ m J := fun o ho B M σ H D i ok kk => wSs_cons (wS_of ps_doc (hr o ho B M σ H D i ok kk))
theorem bl_cont {o : O} (hs : Sub Γ Γ') (hJ : J o = .ct Γ') : BL X (.Continue pos :: rest) Γ (some o) J := fun o' ho B M σ H D i ok k => by
  obtain rfl := Option.some.inj ho
  rw [hJ] at k
  obtain ⟨M', s, ok'⟩ := ok.sub hs
  exact wSs_cons (wS_of ps_continue (k σ B M' H (Stp.drop i s) ok'))
theorem bl_brk {o : O} (hs : Sub Γ Γ') (hJ : J o = .bk Γ') : BL X (.Break pos :: rest) Γ (some o) J := fun o' ho B M σ H D i ok k => by
  obtain rfl := Option.some.inj ho
  rw [hJ] at k
  obtain ⟨M', s, ok'⟩ := ok.sub hs
  exact wSs_cons (wS_of ps_break (k σ B M' H (Stp.drop i s) ok'))
/-- x op= e -/
theorem bl_aug {op : Operator} {i : Nat} {x : Str} {m : Option β} {τa : Ty α} {τb : Ty β} {τc : Ty γ} {y : α} {g : α → β → Option γ} {k : γ → Option O} (hN : X.N.Nodup) (hi : X.N[i]? = some x) (hx : Loc X.env.scope x) (hΓ : sl Γ i = .val (τa.P y)) (ho : OpT X (inplaceOp op) τa τb τc g) (he : EVm X e Γ m τb)
    (hr : ∀ z, BL X rest (G.st Γ i (.val (τc.P z))) (k z) J) (hf : X.fn x = true ∨ X.env.scope.names.lookup x = some .local := by first | exact .inl rfl | exact .inr rfl | assumption) : BL X (.AugAssign (.Name x pos') op e pos :: rest) Γ ((o2 g (some y) m).bind k) J := fun o hoo B M σ H D inn ok kk => by
  obtain ⟨z, h1, h2⟩ := bind_of hoo
  obtain ⟨y', e', h3, h4, h5⟩ := o2_of h1
  obtain rfl := Option.some.inj h3
  obtain ⟨v, hv, rv⟩ := ok.val hΓ
  refine wSs_cons (wS_of (ps_aug (ti := fun v w H Q => ∃ B, Same B H ∧ τa.rel y v B ∧ τb.rel e' w B ∧ ∀ v' B' H', Gr B H B' H' → τc.rel z v' B' → Q v' H') hN hi hx peW (fun pins s σ H v' w u t Q I ru rt ⟨B, sb, ra, rb, q⟩ => ho y e' z h5 pins s σ v' w u t B H Q I sb ra rb ru rt q) hf) ⟨v, hv, ?_⟩)
  refine he e' h4 B M σ H _ inn ok fun w B1 H1 g1 r1 => ⟨B1, g1.bh, τa.mono _ _ _ _ g1.bb rv, r1, fun v' B2 H2 g2 r2 => ?_⟩
  have g := g1.trans g2
  obtain ⟨M', s, ok'⟩ := (ok.mono g.bb).set (i := i) (φ := τc.P z) r2
  have s1 := Stp.gr inn g
  have s2 := s1.trans (Stp.drop s1.i s)
  exact hr z o h2 B2 M' _ H2 D s2.i ok' (kk.step s2)
/-! targets -/
def PGm (X : Cx) (tg : Expr) (τ : Ty α) (up : List Slot → α → List Slot) : Prop := ∃ g, PG X tg g ∧ ∀ x v B M σ H Γ (Q : L2.St → Hp → Prop), In B M H → OkS Γ σ B M → τ.rel x v B → (∀ σ' M', Same M' M → OkS (up Γ x) σ' B M' → Q σ' H) → g v σ H Q
def PGsm (X : Cx) (ts : List Expr) (ρ : TyT α) (up : List Slot → α → List Slot) : Prop := ∃ g, PGs X ts g ∧ ∀ x vs B M σ H Γ (Q : L2.St → Hp → Prop), In B M H → OkS Γ σ B M → ρ.rel x vs B → (∀ σ' M', Same M' M → OkS (up Γ x) σ' B M' → Q σ' H) → g vs σ H Q
theorem pgm_name {i : Nat} {x : Str} {τ : Ty α} (hN : X.N.Nodup) (hi : X.N[i]? = some x) (hx : Loc X.env.scope x) (hf : X.fn x = true ∨ X.env.scope.names.lookup x = some .local := by first | exact .inl rfl | exact .inr rfl | assumption) : PGm X (.Name x pos) τ (fun Γ y => G.st Γ i (.val (τ.P y))) :=
  ⟨gName i, pg_name hN hi hx hf, fun y v B M σ H Γ Q inn ok r q => by
    obtain ⟨M', s, ok'⟩ := ok.set (i := i) (φ := τ.P y) r
    exact q _ M' s ok'⟩
theorem pgs_one {τ : Ty α} {up : List Slot → α → List Slot} (h : PGm X e τ up) (hs : (assignEach [e] X.env).map (·.2) = assign e X.env :: (assignEach [] X.env).map (·.2) := by rfl) : PGsm X [e] (tOne τ) up := by
  obtain ⟨g, p, q⟩ := h
  exact ⟨_, pgs_cons p pgs_nil hs, fun x vs B M σ H Γ Q inn ok ⟨v, ev, r⟩ k => ⟨v, [], ev, q x v B M σ H Γ _ inn ok r fun σ' M' s ok' => ⟨rfl, k σ' M' s ok'⟩⟩⟩
theorem pgs_con {τ : Ty α} {ρ : TyT β} {up : List Slot → α → List Slot} {up' : List Slot → β → List Slot} (h : PGm X e τ up) (h' : PGsm X es ρ up') (hs : (assignEach (e :: es) X.env).map (·.2) = assign e X.env :: (assignEach es X.env).map (·.2) := by rfl) : PGsm X (e :: es) (tCons τ ρ) (fun Γ x => up' (up Γ x.1) x.2) := by
  obtain ⟨g, p, q⟩ := h
  obtain ⟨g', p', q'⟩ := h'
  exact ⟨_, pgs_cons p p' hs, fun x vs B M σ H Γ Q inn ok ⟨v, ws, ev, r, rs⟩ k => ⟨v, ws, ev, q x.1 v B M σ H Γ _ inn ok r fun σ' M' s ok' => q' x.2 ws B M' σ' H _ Q ⟨inn.b, s.trans inn.m, inn.dj.sub s⟩ ok' rs fun σ2 M2 s2 ok2 => k σ2 M2 (s2.trans s) ok2⟩⟩
theorem pgm_tup {n : Nat} {ρ : TyT α} {up : List Slot → α → List Slot} (hc : X.calm = true) (h : PGsm X es ρ up) (hn : (assignEach es X.env).length = ρ.len := by rfl) (hst : (assignEach es X.env).findIdx? (·.1) = none := by rfl) : PGm X (.Tuple es n pos) (tTup X.K ρ) up := by
  obtain ⟨g, p, q⟩ := h
  refine ⟨_, pg_tup hc p hn hst, fun x v B M σ H Γ Q inn ok ⟨a, vs, ev, sq, r⟩ k => ⟨a, vs, ev, same_tup inn.b sq, ?_, q x vs B M σ H Γ Q inn ok r k⟩⟩
  exact ρ.hlen _ _ _ r
theorem bl_tup {m : Option α} {τ : Ty α} {up : List Slot → α → List Slot} {k : α → Option O} (he : EVm X e Γ m τ) (hg : PGm X tg τ up) (hr : ∀ y, BL X rest (up Γ y) (k y) J)
    (hs : swapsWithSole [tg] e pos.line X.env = pure false := by rfl) (hw : swappedStores [tg] e X.env = pure none := by rfl) (ha : (assignEach [tg] X.env).map (·.2) = [assign tg X.env] := by rfl) : BL X (.Assign [tg] e pos :: rest) Γ (m.bind k) J := fun o ho B M σ H D inn ok kk => by
  obtain ⟨y, h1, h2⟩ := bind_of ho
  obtain ⟨g, pg, q⟩ := hg
  refine wSs_cons (wS_of (ps_asg peW pg hs hw ha) (he y h1 B M σ H _ inn ok fun v B1 H1 g1 r1 => ?_))
  refine q y v B1 M σ H1 Γ _ (inn.gr g1) (ok.mono g1.bb) r1 fun σ' M' s ok' => ?_
  have s1 := Stp.gr inn g1
  have s2 := s1.trans (Stp.drop s1.i s)
  exact hr y o h2 B1 M' σ' H1 D s2.i ok' (kk.step s2)
/-! what is walked -/
def ItOk (J : It) (xs : List α) (τ : Ty α) (B : Hp) : Prop := ∀ i B1 H, Same B B1 → Same B1 H → (∀ x, xs[i]? = some x → J.go i H ∧ ∀ v H', J.yld i H v H' → ∃ B', Gr B1 H B' H' ∧ τ.rel x v B') ∧ (xs[i]? = none → J.stop i H)
/-- what a heap that is held keeps: no list is longer than the line -/
def Vd (H : Hp) : Prop := ∀ a xs, H a = some (.lst xs) ∨ H a = some (.tup xs) → xs.length ≤ sizeLine
theorem Vd.of {pins : List (Addr × Obj)} {s : Shared} {σ : L2.St} {H : Hp} (I : Inv X pins σ H s) : Vd H := fun a xs h => by
  rcases h with h | h
  · exact (I.hok a _ h).1
  · exact (I.hok a _ h).1
theorem pi_vd {wi : TI} (h : PI X tg e wi) : PI X tg e (fun σ H R => wi σ H fun J H' => Vd H' → R J H') := ⟨fun pins s σ H R I q => by
  refine thn (h.run pins s σ H _ I q) fun v s1 h1 => thn h1 fun itv s2 h2 => ?_
  obtain ⟨it, fp, tn, J, H', e1, I2, T, t0, fo, r⟩ := h2
  exact ⟨it, fp, tn, J, H', e1, I2, T, t0, fo, r (Vd.of I2)⟩⟩
def PIm (X : Cx) (tg iter : Expr) (Γ : List Slot) (m : Option (List α)) (τ : Ty α) : Prop := ∃ wi, PI X tg iter wi ∧ ∀ xs, m = some xs → ∀ B M σ H (R : It → Hp → Prop), In B M H → OkS Γ σ B M → (∀ J B' H', Gr B H B' H' → ItOk J xs τ B' → xs.length ≤ sizeLine → R J H') → wi σ H R
theorem paired_at {F : α → β → Prop} : ∀ {xs : List α} {ys : List β} {i : Nat} {x : α}, Paired F xs ys → xs[i]? = some x → ∃ y, ys[i]? = some y ∧ F x y
  | _, _, _, _, .nil, h => by simp at h
  | _, _, 0, _, .cons f _, h => by simp at h; subst h; exact ⟨_, rfl, f⟩
  | _, _, i + 1, _, .cons _ t, h => by
    obtain ⟨y, e, f⟩ := paired_at (i := i) t (by simpa using h)
    exact ⟨y, by simpa using e, f⟩
theorem paired_none {F : α → β → Prop} {xs : List α} {ys : List β} {i : Nat} (h : Paired F xs ys) (e : xs[i]? = none) : ys.length ≤ i := by
  rw [← paired_len h]
  exact List.getElem?_eq_none_iff.mp e
theorem pim_list {m : Option (List α)} {τ : Ty α} (h : EVm X e Γ m (tList X.K τ)) : PIm X tg e Γ m τ :=
  ⟨_, pi_vd (pi_list peW), fun xs hx B M σ H R i ok q => h xs hx B M σ H _ i ok fun v B1 H1 g1 ⟨a, vs, ev, sq, pr⟩ => ⟨a, ev, ⟨vs, SqL.of (g1.bh _ _ sq)⟩, fun vd => q _ B1 H1 g1 (fun i B2 H2 s1 s2 =>
    ⟨fun x hx => by
      obtain ⟨y, hy, r⟩ := paired_at pr hx
      have sq2 := SqL.of (K := X.K) ((s1.trans s2) _ _ sq)
      refine ⟨⟨vs, y, sq2, hy⟩, fun v' H' ⟨e1, e2⟩ => ?_⟩
      subst e1
      have := e2 vs sq2
      rw [hy] at this
      cases this
      exact ⟨B2, Gr.refl s2, τ.mono _ _ _ _ s1 r⟩, fun hn => ⟨vs, SqL.of ((s1.trans s2) _ _ sq), paired_none pr hn⟩⟩) (by rw [paired_len pr]; exact vd a vs (.inl (g1.bh _ _ sq)))⟩⟩
theorem pim_tups {m : Option (List α)} {τ : Ty α} (h : EVm X e Γ m (tTups X.K τ)) (hz : ∀ xs, m = some xs → xs.length ≤ sizeLine) : PIm X tg e Γ m τ :=
  ⟨_, pi_tup peW, fun xs hx B M σ H R i ok q => h xs hx B M σ H _ i ok fun v B1 H1 g1 ⟨a, vs, ev, sq, pr⟩ => ⟨a, ev, ⟨vs, same_tup g1.bh sq⟩, q _ B1 H1 g1 (fun i B2 H2 s1 s2 =>
    ⟨fun x hx => by
      obtain ⟨y, hy, r⟩ := paired_at pr hx
      have sq2 := same_tup (s1.trans s2) sq
      refine ⟨⟨vs, y, sq2, hy⟩, fun v' H' ⟨e1, e2⟩ => ?_⟩
      subst e1
      have := e2 vs sq2
      rw [hy] at this
      cases this
      exact ⟨B2, Gr.refl s2, τ.mono _ _ _ _ s1 r⟩, fun hn => ⟨vs, same_tup (s1.trans s2) sq, paired_none pr hn⟩⟩) (hz xs hx)⟩⟩
/-- lo, lo + 1, .. -/
def irange (lo : Int) (n : Nat) : List Int := (List.range n).map fun (i : Nat) => lo + (i : Int)
def rngG (j : Int) : Option (List Int) := if -(2 ^ 62) ≤ j ∧ j ≤ 16777216 then some (irange 0 j.toNat) else none
def rngG2 (i j : Int) : Option (List Int) := if -(2 ^ 62) ≤ i ∧ i < 2 ^ 62 ∧ -(2 ^ 62) ≤ j ∧ j < 2 ^ 62 ∧ j - i ≤ 16777216 then some (irange i (j - i).toNat) else none
theorem irange_len (lo : Int) (n : Nat) : (irange lo n).length = n := by unfold irange; rw [List.length_map, List.length_range]
theorem irange_ok (lo : Int) (n : Nat) (B : Hp) : ItOk (Itr lo n) (irange lo n) tInt B := fun i B1 H s1 s2 => by
  refine ⟨fun x hx => ?_, fun hn => ?_⟩
  · unfold irange at hx
    rw [List.getElem?_map] at hx
    have hi : i < n := by
      cases z : (List.range n)[i]? with
      | none => rw [z] at hx; cases hx
      | some u => have := (List.getElem?_eq_some_iff.mp z).1; simpa using this
    rw [List.getElem?_range hi] at hx
    cases hx
    exact ⟨hi, fun v H' ⟨e1, e2⟩ => by subst e1 e2; exact ⟨B1, Gr.refl s2, rfl⟩⟩
  · unfold irange at hn
    have := List.getElem?_eq_none_iff.mp hn
    rw [List.length_map, List.length_range] at this
    exact this
theorem pim_range1 {m : Option Int} {p : Pos} (hg : Gl X "range") (hm : X.mg "range" = none) (h : EVm X a Γ m tInt) (hs : starEach [a] X.env = [(false, eval a X.env)] := by rfl) : PIm X tg (.Call (.Name "range" p) [a] [] pos) Γ (m.bind rngG) tInt :=
  ⟨_, pi_range1 hg hm paW hs, fun xs hx B M σ H R i ok q => by
    obtain ⟨j, h1, h2⟩ := bind_of hx
    obtain ⟨h3, h4⟩ := ite_of h2
    subst h4
    refine (ea_one h hs) j h1 B M σ H _ i ok fun vs B1 H1 g1 ⟨v, ev, r⟩ => ⟨j, by rw [ev, show v = .int j from r], h3.1, Int.lt_of_le_of_lt h3.2 (by decide), q _ B1 H1 g1 (irange_ok 0 j.toNat B1) (by rw [irange_len, sizeLine_eq]; omega)⟩⟩
theorem pim_range2 {m m' : Option Int} {p : Pos} (hg : Gl X "range") (hm : X.mg "range" = none) (h : EVm X a Γ m tInt) (h' : EVm X b Γ m' tInt) (hs : starEach [a, b] X.env = [(false, eval a X.env), (false, eval b X.env)] := by rfl) (hs2 : starEach [b] X.env = [(false, eval b X.env)] := by rfl) : PIm X tg (.Call (.Name "range" p) [a, b] [] pos) Γ (o2 rngG2 m m') tInt :=
  ⟨_, pi_range2 hg hm paW hs hs2, fun xs hx B M σ H R i ok q => by
    obtain ⟨j, l, h1, h2, h3⟩ := o2_of hx
    obtain ⟨h4, h5⟩ := ite_of h3
    subst h5
    refine (ea_cons h (ea_one h' hs2) (hs.trans (by rw [hs2]))) (j, l) (by rw [h1, h2]; rfl) B M σ H _ i ok fun vs B1 H1 g1 ⟨v, ws, ev, r, v', ev', r'⟩ => ⟨j, l, by rw [ev, ev', show v = .int j from r, show v' = .int l from r'], ⟨h4.1, h4.2.1, h4.2.2.1, h4.2.2.2.1⟩, q _ B1 H1 g1 (irange_ok j _ B1) (by rw [irange_len, sizeLine_eq]; omega)⟩⟩
/-! loops -/
def foldO (f : S → α → Option S) : S → List α → Option S
  | s, [] => some s
  | s, x :: xs => (f s x).bind fun s' => foldO f s' xs
inductive Lp (S R : Type) where
  | nx (s : S)
  | bk (s : S)
  | ct (s : S)
  | rt (r : R)
inductive Rs (S R : Type) where
  | go (s : S)
  | rt (r : R)
def forO (f : S → α → Option (Lp S R)) : S → List α → Option (Rs S R)
  | s, [] => some (.go s)
  | s, x :: xs => (f s x).bind fun l => match l with
    | .nx s' => forO f s' xs
    | .ct s' => forO f s' xs
    | .bk s' => some (.go s')
    | .rt r => some (.rt r)
/-- behind a loop that may have been left by return -/
def rsB (l : Rs S R) (k : S → Option O) (g : R → O) : Option O := match l with
  | .go s => k s
  | .rt r => some (g r)
theorem drop_at {xs : List α} {i : Nat} {x : α} (h : xs[i]? = some x) : xs.drop i = x :: xs.drop (i + 1) := by
  obtain ⟨hl, e⟩ := List.getElem?_eq_some_iff.mp h
  rw [List.drop_eq_getElem_cons hl, e]
theorem bl_for {iter : Expr} {body : List Stmt} {m : Option (List α)} {τ : Ty α} {up : List Slot → α → List Slot} {f : S → α → Option S} {s0 : S} {Γl : S → List Slot} {k : S → Option O} (hp : PassesOwn (model X.prog X.w) X.A X.env X.xe) (hc : X.calm = true)
    (hi : PIm X tg iter Γ m τ) (hg : PGm X tg τ up) (h0 : Sub Γ (Γl s0)) (hb : ∀ s x, BL X body (up (Γl s) x) (f s x) fun s' => .nx (Γl s')) (hr : ∀ s, BL X rest (Γl s) (k s) J)
    (hs : ∀ x, foldedSetIterable iter X.env x = pure x := by intro _; rfl) : BL X (.For tg iter body [] pos :: rest) Γ (m.bind fun xs => (foldO f s0 xs).bind k) J := fun o ho B M σ H D inn ok kk => by
  obtain ⟨xs, h1, h2⟩ := bind_of ho
  obtain ⟨sE, h3, h4⟩ := bind_of h2
  obtain ⟨wi, pi, qi⟩ := hi
  obtain ⟨g, pg, qg⟩ := hg
  refine wSs_cons (wS_of (ps_for hp hc pi pg pssW hs) (qi xs h1 B M σ H _ inn ok fun Jt B1 H1 g1 it _ => ?_))
  have s1 := Stp.gr inn g1
  obtain ⟨M0, sm, ok0⟩ := (ok.mono g1.bb).sub h0
  have s2 := s1.trans (Stp.drop s1.i sm)
  refine ⟨fun i m σ H => m = xs.length - i ∧ i ≤ xs.length ∧ ∃ s B' M', Stp B1 M0 H1 B' M' H ∧ OkS (Γl s) σ B' M' ∧ foldO f s (xs.drop i) = some sE, ⟨_, rfl, Nat.zero_le _, s0, B1, M0, Stp.refl s2.i, ok0, h3⟩, ?_⟩
  intro i mm σ' H' ⟨emm, hle, s, B', M', st', ok', hf⟩
  subst emm
  cases hx : xs[i]? with
  | none =>
    have hlen : xs.length ≤ i := List.getElem?_eq_none_iff.mp hx
    refine .inl ⟨(it i B' H' st'.bb st'.i.b).2 hx, ?_⟩
    rw [List.drop_eq_nil_of_le hlen] at hf
    cases hf
    exact hr sE o h4 B' M' σ' H' D st'.i ok' (kk.step (s2.trans st'))
  | some x =>
    have hlt : i < xs.length := (List.getElem?_eq_some_iff.mp hx).1
    obtain ⟨hgo, hy⟩ := (it i B' H' st'.bb st'.i.b).1 x hx
    rw [drop_at hx] at hf
    obtain ⟨sN, f1, f2⟩ := bind_of (show (f s x).bind (fun s' => foldO f s' (xs.drop (i + 1))) = some sE from hf)
    refine .inr ⟨hgo, fun σ2 H2 => ∃ B2 M2, Stp B1 M0 H1 B2 M2 H2 ∧ OkS (Γl sN) σ2 B2 M2, fun σ2 H2 ⟨B2, M2, st2, ok2⟩ => ⟨xs.length - (i + 1), by omega, rfl, hlt, sN, B2, M2, st2, ok2, f2⟩, fun v H2 hv => ?_⟩
    obtain ⟨B2, g2, r2⟩ := hy v H2 hv
    have st2 := st'.trans (Stp.gr st'.i g2)
    refine qg x v B2 M' σ' H2 (Γl s) _ st2.i (ok'.mono g2.bb) r2 fun σ3 M3 sm3 ok3 => ?_
    have st3 := st2.trans (Stp.drop st2.i sm3)
    exact hb s x sN f1 B2 M3 σ3 H2 _ st3.i ok3 fun σ4 B4 M4 H4 st4 ok4 => ⟨B4, M4, st3.trans st4, ok4⟩
def lpJ (Γl : S → List Slot) (post : R → V → Hp → Hp → Prop) : Lp S R → Oc
  | .nx s => .nx (Γl s)
  | .bk s => .bk (Γl s)
  | .ct s => .ct (Γl s)
  | .rt r => .rt (post r)
theorem bl_forx {iter : Expr} {body : List Stmt} {m : Option (List α)} {τ : Ty α} {up : List Slot → α → List Slot} {f : S → α → Option (Lp S R)} {s0 : S} {Γl : S → List Slot} {k : S → Option O} {g' : R → O} {post : R → V → Hp → Hp → Prop} (hp : PassesOwn (model X.prog X.w) X.A X.env X.xe) (hc : X.calm = true)
    (hi : PIm X tg iter Γ m τ) (hg : PGm X tg τ up) (h0 : Sub Γ (Γl s0)) (hJ : ∀ r, (J (g' r)).ret = some (post r)) (hb : ∀ s x, BL X body (up (Γl s) x) (f s x) (lpJ Γl post)) (hr : ∀ s, BL X rest (Γl s) (k s) J)
    (hs : ∀ x, foldedSetIterable iter X.env x = pure x := by intro _; rfl) : BL X (.For tg iter body [] pos :: rest) Γ (m.bind fun xs => (forO f s0 xs).bind fun l => rsB l k g') J := fun o ho B M σ H D inn ok kk => by
  obtain ⟨xs, h1, h2⟩ := bind_of ho
  obtain ⟨lE, h3, h4⟩ := bind_of h2
  obtain ⟨wi, pi, qi⟩ := hi
  obtain ⟨g, pg, qg⟩ := hg
  refine wSs_cons (wS_of (ps_for hp hc pi pg pssW hs) (qi xs h1 B M σ H _ inn ok fun Jt B1 H1 g1 it _ => ?_))
  have s1 := Stp.gr inn g1
  obtain ⟨M0, sm, ok0⟩ := (ok.mono g1.bb).sub h0
  have s2 := s1.trans (Stp.drop s1.i sm)
  refine ⟨fun i m σ H => m = xs.length - i ∧ i ≤ xs.length ∧ ∃ s B' M', Stp B1 M0 H1 B' M' H ∧ OkS (Γl s) σ B' M' ∧ forO f s (xs.drop i) = some lE, ⟨_, rfl, Nat.zero_le _, s0, B1, M0, Stp.refl s2.i, ok0, h3⟩, ?_⟩
  intro i mm σ' H' ⟨emm, hle, s, B', M', st', ok', hf⟩
  subst emm
  cases hx : xs[i]? with
  | none =>
    have hlen : xs.length ≤ i := List.getElem?_eq_none_iff.mp hx
    refine .inl ⟨(it i B' H' st'.bb st'.i.b).2 hx, ?_⟩
    rw [List.drop_eq_nil_of_le hlen] at hf
    cases hf
    exact hr s o h4 B' M' σ' H' D st'.i ok' (kk.step (s2.trans st'))
  | some x =>
    have hlt : i < xs.length := (List.getElem?_eq_some_iff.mp hx).1
    obtain ⟨hgo, hy⟩ := (it i B' H' st'.bb st'.i.b).1 x hx
    rw [drop_at hx] at hf
    obtain ⟨l, f1, f2⟩ := bind_of (show (f s x).bind (fun l => match l with | .nx s' => forO f s' (xs.drop (i + 1)) | .ct s' => forO f s' (xs.drop (i + 1)) | .bk s' => some (.go s') | .rt r => some (.rt r)) = some lE from hf)
    refine .inr ⟨hgo, fun σ2 H2 => ∃ sN B2 M2, Stp B1 M0 H1 B2 M2 H2 ∧ OkS (Γl sN) σ2 B2 M2 ∧ forO f sN (xs.drop (i + 1)) = some lE, fun σ2 H2 ⟨sN, B2, M2, st2, ok2, f3⟩ => ⟨xs.length - (i + 1), by omega, rfl, hlt, sN, B2, M2, st2, ok2, f3⟩, fun v H2 hv => ?_⟩
    obtain ⟨B2, g2, r2⟩ := hy v H2 hv
    have st2 := st'.trans (Stp.gr st'.i g2)
    refine qg x v B2 M' σ' H2 (Γl s) _ st2.i (ok'.mono g2.bb) r2 fun σ3 M3 sm3 ok3 => ?_
    have st3 := st2.trans (Stp.drop st2.i sm3)
    refine hb s x l f1 B2 M3 σ3 H2 _ st3.i ok3 ?_
    cases l with
    | nx sN => exact fun σ4 B4 M4 H4 st4 ok4 => ⟨sN, B4, M4, st3.trans st4, ok4, f2⟩
    | ct sN => exact fun σ4 B4 M4 H4 st4 ok4 => ⟨sN, B4, M4, st3.trans st4, ok4, f2⟩
    | bk sN =>
      cases f2
      exact fun σ4 B4 M4 H4 st4 ok4 => hr sN o h4 B4 M4 σ4 H4 D st4.i ok4 (kk.step ((s2.trans st3).trans st4))
    | rt r =>
      cases f2
      cases h4
      exact fun v4 B4 M4 H4 st4 p4 => kk.ret (hJ r) v4 B4 M4 H4 ((s2.trans st3).trans st4) p4
def whileO (c : S → Option Bool) (f : S → Option S) : Nat → S → Option S
  | 0, _ => none
  | n + 1, s => (c s).bind fun b => if b = true then (f s).bind (whileO c f n) else some s
def whileX (c : S → Option Bool) (f : S → Option (Lp S R)) : Nat → S → Option (Rs S R)
  | 0, _ => none
  | n + 1, s => (c s).bind fun b => if b = true then (f s).bind fun l => match l with
      | .nx s' => whileX c f n s'
      | .ct s' => whileX c f n s'
      | .bk s' => some (.go s')
      | .rt r => some (.rt r)
    else some (.go s)
theorem bl_while {body : List Stmt} {fc : S → Option Bool} {f : S → Option S} {n : Nat} {s0 : S} {Γl : S → List Slot} {k : S → Option O} (hp : PassesOwn (model X.prog X.w) X.A X.env X.xe)
    (h0 : Sub Γ (Γl s0)) (hc : ∀ s, ETm X c (Γl s) (fc s)) (hb : ∀ s, BL X body (Γl s) (f s) fun s' => .nx (Γl s')) (hr : ∀ s, BL X rest (Γl s) (k s) J) : BL X (.While c body [] pos :: rest) Γ ((whileO fc f n s0).bind k) J := fun o ho B M σ H D inn ok kk => by
  obtain ⟨sE, h3, h4⟩ := bind_of ho
  obtain ⟨M0, sm, ok0⟩ := ok.sub h0
  have s2 := Stp.drop inn sm
  refine wSs_cons (wS_of (ps_while hp ptW pssW) ?_)
  refine ⟨fun n σ H' => ∃ s B' M', Stp B M0 H B' M' H' ∧ OkS (Γl s) σ B' M' ∧ whileO fc f n s = some sE, ⟨n, s0, B, M0, Stp.refl s2.i, ok0, h3⟩, ?_⟩
  intro n' σ' H' ⟨s, B', M', st', ok', hf⟩
  cases n' with
  | zero => cases hf
  | succ n' =>
    obtain ⟨z, c1, c2⟩ := bind_of (show (fc s).bind _ = some sE from hf)
    refine hc s z c1 B' M' σ' H' _ st'.i ok' fun B1 H1 g1 => ?_
    have st1 := st'.trans (Stp.gr st'.i g1)
    have ok1 := ok'.mono g1.bb
    cases z with
    | false =>
      cases c2
      exact hr sE o h4 B1 M' σ' H1 D st1.i ok1 (kk.step (s2.trans st1))
    | true =>
      obtain ⟨sN, f1, f2⟩ := bind_of (show (f s).bind _ = some sE from c2)
      refine ⟨fun σ2 H2 => ∃ B2 M2, Stp B M0 H B2 M2 H2 ∧ OkS (Γl sN) σ2 B2 M2, fun σ2 H2 ⟨B2, M2, st2, ok2⟩ => ⟨n', Nat.lt_succ_self _, sN, B2, M2, st2, ok2, f2⟩, ?_⟩
      exact hb s sN f1 B1 M' σ' H1 _ st1.i ok1 fun σ4 B4 M4 H4 st4 ok4 => ⟨B4, M4, st1.trans st4, ok4⟩
theorem bl_whilex {body : List Stmt} {fc : S → Option Bool} {f : S → Option (Lp S R)} {n : Nat} {s0 : S} {Γl : S → List Slot} {k : S → Option O} {g' : R → O} {post : R → V → Hp → Hp → Prop} (hp : PassesOwn (model X.prog X.w) X.A X.env X.xe)
    (h0 : Sub Γ (Γl s0)) (hJ : ∀ r, (J (g' r)).ret = some (post r)) (hc : ∀ s, ETm X c (Γl s) (fc s)) (hb : ∀ s, BL X body (Γl s) (f s) (lpJ Γl post)) (hr : ∀ s, BL X rest (Γl s) (k s) J) :
    BL X (.While c body [] pos :: rest) Γ ((whileX fc f n s0).bind fun l => rsB l k g') J := fun o ho B M σ H D inn ok kk => by
  obtain ⟨lE, h3, h4⟩ := bind_of ho
  obtain ⟨M0, sm, ok0⟩ := ok.sub h0
  have s2 := Stp.drop inn sm
  refine wSs_cons (wS_of (ps_while hp ptW pssW) ?_)
  refine ⟨fun n σ H' => ∃ s B' M', Stp B M0 H B' M' H' ∧ OkS (Γl s) σ B' M' ∧ whileX fc f n s = some lE, ⟨n, s0, B, M0, Stp.refl s2.i, ok0, h3⟩, ?_⟩
  intro n' σ' H' ⟨s, B', M', st', ok', hf⟩
  cases n' with
  | zero => cases hf
  | succ n' =>
    obtain ⟨z, c1, c2⟩ := bind_of (show (fc s).bind _ = some lE from hf)
    refine hc s z c1 B' M' σ' H' _ st'.i ok' fun B1 H1 g1 => ?_
    have st1 := st'.trans (Stp.gr st'.i g1)
    have ok1 := ok'.mono g1.bb
    cases z with
    | false =>
      cases c2
      exact hr s o h4 B1 M' σ' H1 D st1.i ok1 (kk.step (s2.trans st1))
    | true =>
      obtain ⟨l, f1, f2⟩ := bind_of (show (f s).bind _ = some lE from c2)
      refine ⟨fun σ2 H2 => ∃ sN B2 M2, Stp B M0 H B2 M2 H2 ∧ OkS (Γl sN) σ2 B2 M2 ∧ whileX fc f n' sN = some lE, fun σ2 H2 ⟨sN, B2, M2, st2, ok2, f3⟩ => ⟨n', Nat.lt_succ_self _, sN, B2, M2, st2, ok2, f3⟩, ?_⟩
      refine hb s l f1 B1 M' σ' H1 _ st1.i ok1 ?_
      cases l with
      | nx sN => exact fun σ4 B4 M4 H4 st4 ok4 => ⟨sN, B4, M4, st1.trans st4, ok4, f2⟩
      | ct sN => exact fun σ4 B4 M4 H4 st4 ok4 => ⟨sN, B4, M4, st1.trans st4, ok4, f2⟩
      | bk sN =>
        cases f2
        exact fun σ4 B4 M4 H4 st4 ok4 => hr sN o h4 B4 M4 σ4 H4 D st4.i ok4 (kk.step ((s2.trans st1).trans st4))
      | rt r =>
        cases f2
        cases h4
        exact fun v4 B4 M4 H4 st4 p4 => kk.ret (hJ r) v4 B4 M4 H4 ((s2.trans st1).trans st4) p4
end
end G
/-! G4: what is owned and changes; defs. -/
namespace G
open PySem PySem.Spec PyProof.Rows L2

theorem putF_new {f : Str} {v : V} : ∀ {names : List Str} {vs : List V}, names.length = vs.length → f ∉ names → putF f v (names.zip vs) = (names ++ [f]).zip (vs ++ [v])
  | [], [], _, _ => rfl
  | n :: names, u :: vs, hl, h => by
    have hn : ¬ n = f := fun e => h (by rw [e]; exact List.mem_cons_self ..)
    have hl' : names.length = vs.length := by simpa using hl
    show (if n = f then _ else (n, u) :: putF f v (names.zip vs)) = _
    rw [if_neg hn, putF_new hl' fun q => h (List.mem_cons_of_mem _ q)]
    rfl
theorem putF_old {f : Str} {v : V} : ∀ {names : List Str} {vs : List V} {j : Nat}, names.length = vs.length → names.Nodup → names[j]? = some f → putF f v (names.zip vs) = names.zip (vs.set j v)
  | [], [], j, _, _, h => by simp at h
  | n :: names, u :: vs, 0, hl, nd, h => by
    simp at h
    subst h
    show (if n = n then (n, v) :: names.zip vs else _) = _
    rw [if_pos rfl]
    rfl
  | n :: names, u :: vs, j + 1, hl, nd, h => by
    have h' : names[j]? = some f := by simpa using h
    have hn : ¬ n = f := fun e => (List.nodup_cons.mp nd).1 (by rw [e]; exact List.mem_of_getElem? h')
    have hl' : names.length = vs.length := by simpa using hl
    show (if n = f then _ else (n, u) :: putF f v (names.zip vs)) = _
    rw [if_neg hn, putF_old hl' (List.nodup_cons.mp nd).2 h']
    rfl
theorem OkS.snoc {φ : MP} {v : V} {B : Hp} (p : φ.p v B) : ∀ {Γ : List Slot} {σ : L2.St} {M : Hp}, OkS Γ σ B M → OkS (Γ ++ [.val φ]) (σ ++ [some v]) B M
  | [], [], M, k => ⟨⟨v, rfl, p⟩, k⟩
  | .any :: Γ, _ :: σ, M, k => OkS.snoc p (Γ := Γ) (σ := σ) k
  | .val ψ :: Γ, o :: σ, M, ⟨z, k⟩ => ⟨z, OkS.snoc p k⟩
  | .own ψ :: Γ, o :: σ, M, ⟨w, M1, M2, e, m, d, q, k⟩ => ⟨w, M1, M2, e, m, d, q, OkS.snoc p k⟩
  | [], _ :: _, _, k => k.elim
  | .any :: _, [], _, k => k.elim
  | .val _ :: _, [], _, k => k.elim
  | .own _ :: _, [], _, k => k.elim
theorem OkS.snocO {ψ' : MO} {v : V} {B N : Hp} (p : ψ'.p v B N) : ∀ {Γ : List Slot} {σ : L2.St} {M : Hp}, OkS Γ σ B M → Dj N M → OkS (Γ ++ [.own ψ']) (σ ++ [some v]) B (un N M)
  | [], [], M, k, d => ⟨v, N, M, rfl, rfl, d, p, k⟩
  | .any :: Γ, _ :: σ, M, k, d => OkS.snocO p (Γ := Γ) (σ := σ) k d
  | .val ψ :: Γ, o :: σ, M, ⟨z, k⟩, d => ⟨z, OkS.snocO p k d⟩
  | .own ψ :: Γ, o :: σ, M, ⟨w, M1, M2, e, m, dd, q, k⟩, d => by
    have dM : Dj (un M1 M2) N := by rw [← m]; exact d.symm
    have d1 : Dj M1 N := dM.un_l
    have d2 : Dj M2 N := dM.un_r dd
    refine ⟨w, M1, un N M2, e, ?_, (Dj.un d1.symm dd.symm).symm, q, OkS.snocO p k d2.symm⟩
    rw [m, ← un_assoc, un_comm d1.symm, un_assoc]
  | [], _ :: _, _, k, _ => k.elim
  | .any :: _, [], _, k, _ => k.elim
  | .val _ :: _, [], _, k, _ => k.elim
  | .own _ :: _, [], _, k, _ => k.elim
theorem sing_upd {H M : Hp} {a : Addr} {o o' : HO} (m : Same (un (sing a o) M) H) (d : Dj (sing a o) M) : Same (un (sing a o') M) (upd H a o') := fun b u h => by
  rcases un_some h with h | ⟨n, h⟩
  · obtain ⟨e1, e2⟩ := sing_some h
    subst e1 e2
    exact upd_same
  · by_cases e : b = a
    · subst e
      rw [sing_same] at n
      cases n
    · rw [upd_ne e]
      exact m b u (same_un_r d b u h)
theorem dj_sing {M : Hp} {a : Addr} {o o' : HO} (d : Dj (sing a o) M) : Dj (sing a o') M := fun b u h => by
  obtain ⟨e1, e2⟩ := sing_some h
  subst e1
  exact d b o sing_same
/-- one owned object is changed, and nothing else -/
theorem In.upd {B M N H : Hp} {a : Addr} {o o' : HO} (i : In B (un (un (sing a o) N) M) H) (d : Dj (un (sing a o) N) M) (d1 : Dj (sing a o) N) : In B (un (un (sing a o') N) M) (upd H a o') ∧ Stp B (un (un (sing a o) N) M) H B (un (un (sing a o') N) M) (L2.upd H a o') := by
  have e1 : un (un (sing a o) N) M = un (sing a o) (un N M) := un_assoc _ _ _
  have e2 : un (un (sing a o') N) M = un (sing a o') (un N M) := un_assoc _ _ _
  have dd : Dj (sing a o) (un N M) := (Dj.un d1.symm d.un_l.symm).symm
  rw [e1] at i ⊢
  rw [e2]
  have na : B a = none := i.dj a o (un_l sing_same)
  have inn : In B (un (sing a o') (un N M)) (L2.upd H a o') := by
    refine ⟨fun b u h => ?_, sing_upd i.m dd, fun b u h => ?_⟩
    · rw [upd_ne (ne_of_none h na)]; exact i.b b u h
    · rcases un_some h with h | ⟨_, h⟩
      · obtain ⟨z, _⟩ := sing_some h; subst z; exact na
      · exact i.dj b u (same_un_r dd b u h)
  refine ⟨inn, Same.refl _, inn, fun b u h n => ?_, fun b u h nb _ => nb, fun b u h n => ?_⟩
  · have hb : b ≠ a := fun e => by subst e; rw [un_l sing_same] at n; cases n
    rw [upd_ne hb]; exact h
  · obtain ⟨n1, n2⟩ := un_none.mp n
    have hb : b ≠ a := fun e => by subst e; rw [sing_same] at n1; cases n1
    exact un_none.mpr ⟨sing_ne hb, n2⟩
section
variable {X : Cx} {Γ Γ' : List Slot} {e a b c tg o : Expr} {es : List Expr} {pos p pos' apos : Pos} {rest : List Stmt} {st : Stmt} {O : Type} {J : O → Oc} {α β γ δ S R : Type}
/-- self.f = e in an __init__: f is new -/
theorem bl_fldI {C : Addr} {names : List Str} {Γf : List Slot} {u : V} {i : Nat} {x f : Str} {m : Option α} {τ : Ty α} {k : α → Option O} (hΓ : sl Γ i = .own ((mObj C names Γf).at u)) (hN : X.N[i]? = some x) (hv : Vis X.env.scope x) (c : Cls X.K C) (n : NoAttr X.K C f)
    (he : EVm X e Γ m τ) (hr : ∀ y, BL X rest (G.st Γ i (.own ((mObj C (names ++ [f]) (Γf ++ [.val (τ.P y)])).at u))) (k y) J) (hf : (names.contains f) = false := by decide +kernel) (hl : names.length < 900 := by decide)
    (hd : (x == ("__debug__" : Str)) = false := by decide) (hcd : (x == ("__classdict__" : Str)) = false := by decide)
    (hs : swapsWith e (some (.Attribute (.Name x p) f pos')) pos.line X.env = pure false := by rfl) : BL X (.Assign [.Attribute (.Name x p) f pos'] e pos :: rest) Γ (m.bind k) J := fun oo ho B M σ H D inn ok kk => by
  obtain ⟨y, h1, h2⟩ := bind_of ho
  refine wSs_cons (wS_of (ps_fld (pe_var hN hv hd hcd) peW hs) (he y h1 B M σ H _ inn ok fun v B1 H1 g1 r1 => ?_))
  obtain ⟨w, N1, N2, e1, m1, d1, ⟨e2, a, dx, vs, M1, e3, m2, d2, l2, k2⟩, put⟩ := (ok.mono g1.bb).focus hΓ
  subst e3 m2
  have i1 := inn.gr g1
  have hfn : f ∉ names := fun q => by rw [List.contains_iff_mem.mpr q] at hf; cases hf
  refine ⟨.ref a, e1, a, C, dx, names.zip vs, rfl, i1.m a _ (by rw [m1]; exact un_l (un_l sing_same)), c, n, ?_, ?_⟩
  · rw [List.length_zip]; exact Nat.lt_of_le_of_lt (Nat.min_le_left _ _) (Nat.lt_trans hl (by decide))
  · rw [putF_new l2 hfn]
    subst m1
    obtain ⟨i2, s2⟩ := i1.upd (o' := .ins C dx ((names ++ [f]).zip (vs ++ [v]))) d1 d2
    have ok2 := put ((mObj C (names ++ [f]) (Γf ++ [.val (τ.P y)])).at u) B1 (un (sing a (.ins C dx ((names ++ [f]).zip (vs ++ [v])))) M1) (Same.refl _) (Dj.un (dj_sing d1.un_l) (d1.un_r d2))
      ⟨e2, a, dx, vs ++ [v], M1, rfl, rfl, dj_sing d2, by simp [l2], by rw [List.map_append]; exact k2.snoc r1⟩
    exact hr y oo h2 B1 _ σ _ D i2 ok2 (kk.step ((Stp.gr inn g1).trans s2))
end

/-! ### defs -/
section
variable {P : Program} {w : World} {K : PySem.W.Frag} {mg : Str → Option Value} {base : Heap} {α β γ : Type}
theorem okS_start {Γ : List Slot} {vs : List V} {B M : Hp} : ∀ n, OkS Γ (vs.map some) B M → OkS (Γ ++ List.replicate n .any) (vs.map some ++ List.replicate n none) B M := fun n => by
  have base : ∀ n, OkS (List.replicate n .any) (List.replicate n (none : Option V)) B emp := fun n => by
    induction n with
    | zero => exact rfl
    | succ n ih => exact ih
  have gen : ∀ (Γ : List Slot) (σ : L2.St) (M : Hp), OkS Γ σ B M → OkS (Γ ++ List.replicate n .any) (σ ++ List.replicate n none) B M := by
    intro Γ
    induction Γ with
    | nil =>
      intro σ M k
      cases σ with
      | nil => rw [show M = emp from k]; exact base n
      | cons o σ => exact k.elim
    | cons s Γ ih =>
      intro σ M k
      cases σ with
      | nil => cases s <;> exact k.elim
      | cons o σ =>
        cases s with
        | any => exact ih σ M k
        | val φ => exact ⟨k.1, ih σ M k.2⟩
        | own ψ => obtain ⟨v, M1, M2, e, m, d, q, k⟩ := k; exact ⟨v, M1, M2, e, m, d, q, ih σ M2 k⟩
  exact gen Γ _ M
/-- a def whose arguments stay: it hands back what fm tells -/
theorem fnF {x qual : Str} {st : Stmt} {f : Addr} {fd : FuncData} {N ps : List Str} {k : Nat} {ρ : TyT α} {fm : α → Option β} {τ : Ty β} (F : Fun K x qual st f fd) (S : FnScope N ps (defScope st)) (hl : ρ.len = ps.length)
    (hb : ∀ (cdv : Value) (A : Around) (outer : List Env) (s : Shared) (H : Hp) (E : XK), Room k (A.deeper (PyProof.Rows.envOfC qual (defScope st) s.heap.objs.size f cdv)) → ∀ x, BL (cxOf CX0 P w K mg base N qual (defScope st) f cdv A outer s H E).nox (defBody st) (ρ.slots x ++ List.replicate (N.length - ps.length) .any) (fm x) (fun y => .fn fun v B _ => τ.rel y v B)) :
    FnOk P w K mg base CX0 (k + 1) f fd ps (spF ρ fm τ) := by
  refine F.ok S (fun vs H Q E h => ?_) (fun cdv A outer s H vs Q E hr h => ?_)
  · obtain ⟨B, x, y, _, r, _⟩ := h
    rw [ρ.hlen _ _ _ r, hl]
  · obtain ⟨B, x, y, sb, r, hy, q⟩ := h
    have hlv : vs.length = ps.length := by rw [ρ.hlen _ _ _ r, hl]
    refine ⟨_, pssW, hb cdv A outer s H E hr x y hy B emp _ H _ ⟨sb, fun _ _ z => (nomatch z), Dj.emp _⟩ ?_ ⟨fun v B' M' H' st p => ?_, fun σ B' M' H' st p => ?_⟩⟩
    · have := okS_start (N.length - ps.length) (ρ.hsl x vs B r)
      unfold L2.start
      rw [hlv]
      exact this
    · exact q v B' H' ⟨st.bb, fun a o h => st.fr a o h rfl, st.i.b, fun a o h n => st.newB a o h n rfl⟩ p
    · exact q .non B' H' ⟨st.bb, fun a o h => st.fr a o h rfl, st.i.b, fun a o h n => st.newB a o h n rfl⟩ p
/-- an __init__ -/
theorem fnI {x qual : Str} {st : Stmt} {f C : Addr} {fd : FuncData} {N ps : List Str} {p0 : Str} {k : Nat} {ρ : TyT α} {im : α → Option β} {μ : β → MO} (F : Fun K x qual st f fd) (S : FnScope N (p0 :: ps) (defScope st)) (hl : ρ.len = ps.length)
    (hb : ∀ (cdv : Value) (A : Around) (outer : List Env) (s : Shared) (H : Hp) (E : XK), Room k (A.deeper (PyProof.Rows.envOfC qual (defScope st) s.heap.objs.size f cdv)) → ∀ x u, BL (cxOf CX0 P w K mg base N qual (defScope st) f cdv A outer s H E).nox (defBody st)
      (.own ((mObj C [] []).at u) :: (ρ.slots x ++ List.replicate (N.length - (ps.length + 1)) .any)) (im x) (fun y => .fn fun v B M => v = .non ∧ (μ y).p u B M)) :
    FnOk P w K mg base CX0 (k + 1) f fd (p0 :: ps) (spI C ρ im μ) := by
  refine F.ok S (fun vs H Q E h => ?_) (fun cdv A outer s H vs Q E hr h => ?_)
  · obtain ⟨B, M, x, y, u, ws, e, _, _, r, _⟩ := h
    rw [e, List.length_cons, List.length_cons, ρ.hlen _ _ _ r, hl]
  · obtain ⟨B, M, x, y, u, ws, rfl, i, p, r, hy, q⟩ := h
    have hlv : ws.length = ps.length := by rw [ρ.hlen _ _ _ r, hl]
    refine ⟨_, pssW, hb cdv A outer s H E hr x u y hy B M _ H _ i ?_ ⟨fun v B' M' H' st p => ?_, fun σ B' M' H' st p => ?_⟩⟩
    · have := okS_start (N.length - (ps.length + 1)) (ρ.hsl x ws B r)
      unfold L2.start
      rw [List.length_cons, hlv]
      exact ⟨u, M, emp, rfl, (un_emp _).symm, (Dj.emp _).symm, ⟨rfl, p⟩, this⟩
    · obtain ⟨e, p⟩ := p
      subst e
      exact q B' M' H' st p
    · exact q B' M' H' st p.2
/-- the end of an __init__: nothing is handed back -/
theorem endI {Γ : List Slot} {ψ : MO} {u : V} {Γ' : List Slot} : Γ = .own (ψ.at u) :: Γ' → ∀ σ B M, OkS Γ σ B M → ∃ M', Same M' M ∧ ((.non : V) = .non ∧ ψ.p u B M') := fun e σ B M ok => by
  subst e
  cases σ with
  | nil => exact ok.elim
  | cons o σ =>
    obtain ⟨v, M1, M2, _, m, d, ⟨e, p⟩, _⟩ := ok
    subst e m
    exact ⟨M1, same_un_l _ _, rfl, p⟩
end
end G
/-! G5: built-ins, lists, comprehensions, == of data. -/
namespace G
open PySem PySem.Spec PyProof.Rows L2

/-! ### data for == -/
class DatT (K : PySem.W.Frag) {α : Type} (τ : Ty α) where
  enc : α → PyData
  dep : Nat
  dp : ∀ x v B, τ.rel x v B → Dp K B v (enc x)
  lay : ∀ x, (enc x).canLay0 = true
  hdep : ∀ x, (enc x).depth ≤ dep
  eqv : ∀ x y, PyData.eqv (enc x) (enc y) = true ↔ x = y
class DatTT (K : PySem.W.Frag) {α : Type} (ρ : TyT α) where
  enc : α → List PyData
  dep : Nat
  dp : ∀ x vs B, ρ.rel x vs B → DpAll K B vs (enc x)
  lay : ∀ x, PyData.canLayAll0 (enc x) = true
  hdep : ∀ x, PyData.depthAll (enc x) ≤ dep
  eqv : ∀ x y, PyData.eqvAll (enc x) (enc y) = true ↔ x = y
instance {K : PySem.W.Frag} : DatT K tInt where
  enc := .int
  dep := 0
  dp := fun x v B h => by rw [show v = .int x from h]; exact .int x
  lay := fun x => by simp only [PyData.canLay0]
  hdep := fun x => by simp only [PyData.depth]; omega
  eqv := fun x y => by simp [PyData.eqv]
instance {K : PySem.W.Frag} : DatT K tBool where
  enc := .bool
  dep := 0
  dp := fun x v B h => by rw [show v = .bl x from h]; exact .bl x
  lay := fun x => by simp only [PyData.canLay0]
  hdep := fun x => by simp only [PyData.depth]; omega
  eqv := fun x y => by simp [PyData.eqv]
instance {K : PySem.W.Frag} : DatT K tNone where
  enc := fun _ => .none
  dep := 0
  dp := fun x v B h => by rw [show v = .non from h]; exact .non
  lay := fun x => by simp only [PyData.canLay0]
  hdep := fun x => by simp only [PyData.depth]; omega
  eqv := fun x y => by simp [PyData.eqv]
/-- is not None's data -/
class NNd (K : PySem.W.Frag) {α : Type} (τ : Ty α) [DatT K τ] : Prop where
  nn : ∀ x : α, DatT.enc K τ x ≠ .none
instance {K : PySem.W.Frag} : NNd K tInt := ⟨fun x h => nomatch h⟩
instance {K : PySem.W.Frag} : NNd K tBool := ⟨fun x h => nomatch h⟩
theorem eqv_none_l {d : PyData} (h : d ≠ .none) : PyData.eqv .none d = false := by cases d <;> first | exact absurd rfl h | simp [PyData.eqv]
theorem eqv_none_r {d : PyData} (h : d ≠ .none) : PyData.eqv d .none = false := by cases d <;> first | exact absurd rfl h | simp [PyData.eqv]
instance {K : PySem.W.Frag} {α : Type} {τ : Ty α} [DatT K τ] [NNd K τ] : DatT K (tOpt τ) where
  enc := fun o => match o with
    | none => .none
    | some x => DatT.enc K τ x
  dep := DatT.dep K τ
  dp := fun o v B h => by
    cases o with
    | none => rw [show v = .non from h]; exact .non
    | some x => exact DatT.dp (K := K) x v B h.2
  lay := fun o => by
    cases o with
    | none => simp only [PyData.canLay0]
    | some x => exact DatT.lay (K := K) (τ := τ) x
  hdep := fun o => by
    cases o with
    | none => simp only [PyData.depth]; omega
    | some x => exact DatT.hdep (K := K) (τ := τ) x
  eqv := fun o o' => by
    cases o with
    | none =>
      cases o' with
      | none => simp [PyData.eqv]
      | some y => rw [eqv_none_l (NNd.nn (K := K) (τ := τ) y)]; simp
    | some x =>
      cases o' with
      | none => rw [eqv_none_r (NNd.nn (K := K) (τ := τ) x)]; simp
      | some y => rw [DatT.eqv (K := K) (τ := τ) x y]; simp
theorem dpAll_of {K : PySem.W.Frag} {α : Type} {τ : Ty α} [DatT K τ] {B : Hp} : ∀ {xs : List α} {vs : List V}, Paired (fun x u => τ.rel x u B) xs vs → DpAll K B vs (xs.map (DatT.enc K τ))
  | _, _, .nil => .nil
  | _, _, .cons r t => .cons (DatT.dp (K := K) _ _ B r) (dpAll_of t)
theorem layAll {K : PySem.W.Frag} {α : Type} {τ : Ty α} [DatT K τ] : ∀ xs : List α, PyData.canLayAll0 (xs.map (DatT.enc K τ)) = true
  | [] => by simp only [List.map_nil, PyData.canLayAll0]
  | x :: xs => by simp only [List.map_cons, PyData.canLayAll0, DatT.lay (K := K) (τ := τ), layAll (K := K) (τ := τ) xs, Bool.and_self]
theorem depAll {K : PySem.W.Frag} {α : Type} {τ : Ty α} [DatT K τ] : ∀ xs : List α, PyData.depthAll (xs.map (DatT.enc K τ)) ≤ DatT.dep K τ
  | [] => by simp only [List.map_nil, PyData.depthAll]; omega
  | x :: xs => by
    have h1 := DatT.hdep (K := K) (τ := τ) x
    have h2 := depAll (K := K) (τ := τ) xs
    simp only [List.map_cons, PyData.depthAll]
    omega
theorem eqvAll_map {K : PySem.W.Frag} {α : Type} {τ : Ty α} [DatT K τ] : ∀ xs ys : List α, PyData.eqvAll (xs.map (DatT.enc K τ)) (ys.map (DatT.enc K τ)) = true ↔ xs = ys
  | [], [] => by simp [PyData.eqvAll]
  | [], y :: ys => by simp [PyData.eqvAll]
  | x :: xs, [] => by simp [PyData.eqvAll]
  | x :: xs, y :: ys => by
    simp only [List.map_cons, PyData.eqvAll, Bool.and_eq_true, DatT.eqv (K := K) (τ := τ) x y, eqvAll_map (K := K) (τ := τ) xs ys, List.cons.injEq]
instance {K : PySem.W.Frag} {α : Type} {τ : Ty α} [DatT K τ] : DatT K (tList K τ) where
  enc := fun xs => .list (xs.map (DatT.enc K τ))
  dep := DatT.dep K τ + 1
  dp := fun xs v B ⟨a, vs, e, s, p⟩ => by rw [e]; exact .lst (SqL.of s) (dpAll_of p)
  lay := fun xs => by simp only [PyData.canLay0]; exact layAll xs
  hdep := fun xs => by have := depAll (K := K) (τ := τ) xs; simp only [PyData.depth]; omega
  eqv := fun xs ys => by simp only [PyData.eqv]; exact eqvAll_map xs ys
instance {K : PySem.W.Frag} {α : Type} {τ : Ty α} [DatT K τ] : DatT K (tTups K τ) where
  enc := fun xs => .tuple (xs.map (DatT.enc K τ))
  dep := DatT.dep K τ + 1
  dp := fun xs v B ⟨a, vs, e, s, p⟩ => by rw [e]; exact .tup s (dpAll_of p)
  lay := fun xs => by simp only [PyData.canLay0]; exact layAll xs
  hdep := fun xs => by have := depAll (K := K) (τ := τ) xs; simp only [PyData.depth]; omega
  eqv := fun xs ys => by simp only [PyData.eqv]; exact eqvAll_map xs ys
instance {K : PySem.W.Frag} {α : Type} {τ : Ty α} [DatT K τ] : NNd K (tList K τ) := ⟨fun x h => nomatch h⟩
instance {K : PySem.W.Frag} {α : Type} {τ : Ty α} [DatT K τ] : NNd K (tTups K τ) := ⟨fun x h => nomatch h⟩
instance {K : PySem.W.Frag} {α : Type} {τ : Ty α} [DatT K τ] : DatTT K (tOne τ) where
  enc := fun x => [DatT.enc K τ x]
  dep := DatT.dep K τ
  dp := fun x vs B ⟨v, e, r⟩ => by rw [e]; exact .cons (DatT.dp (K := K) _ _ B r) .nil
  lay := fun x => by simp only [PyData.canLayAll0, DatT.lay (K := K) (τ := τ), Bool.and_self]
  hdep := fun x => by have := DatT.hdep (K := K) (τ := τ) x; simp only [PyData.depthAll]; omega
  eqv := fun x y => by simp only [PyData.eqvAll, Bool.and_true]; exact DatT.eqv (K := K) (τ := τ) x y
instance {K : PySem.W.Frag} {α β : Type} {τ : Ty α} {ρ : TyT β} [DatT K τ] [DatTT K ρ] : DatTT K (tCons τ ρ) where
  enc := fun x => DatT.enc K τ x.1 :: DatTT.enc K ρ x.2
  dep := max (DatT.dep K τ) (DatTT.dep K ρ)
  dp := fun x vs B ⟨v, ws, e, r, q⟩ => by rw [e]; exact .cons (DatT.dp (K := K) _ _ B r) (DatTT.dp (K := K) _ _ B q)
  lay := fun x => by simp only [PyData.canLayAll0, DatT.lay (K := K) (τ := τ), DatTT.lay (K := K) (ρ := ρ), Bool.and_self]
  hdep := fun x => by
    have h1 := DatT.hdep (K := K) (τ := τ) x.1
    have h2 := DatTT.hdep (K := K) (ρ := ρ) x.2
    simp only [PyData.depthAll]
    omega
  eqv := fun x y => by
    simp only [PyData.eqvAll, Bool.and_eq_true, DatT.eqv (K := K) (τ := τ), DatTT.eqv (K := K) (ρ := ρ)]
    exact ⟨fun h => Prod.ext h.1 h.2, fun h => by rw [h]; exact ⟨rfl, rfl⟩⟩
instance {K : PySem.W.Frag} {α : Type} {ρ : TyT α} [DatTT K ρ] : DatT K (tTup K ρ) where
  enc := fun x => .tuple (DatTT.enc K ρ x)
  dep := DatTT.dep K ρ + 1
  dp := fun x v B ⟨a, vs, e, s, p⟩ => by rw [e]; exact .tup s (DatTT.dp (K := K) _ _ B p)
  lay := fun x => by simp only [PyData.canLay0]; exact DatTT.lay (K := K) (ρ := ρ) x
  hdep := fun x => by have := DatTT.hdep (K := K) (ρ := ρ) x; simp only [PyData.depth]; omega
  eqv := fun x y => by simp only [PyData.eqv]; exact DatTT.eqv (K := K) (ρ := ρ) x y
instance {K : PySem.W.Frag} {α : Type} {ρ : TyT α} [DatTT K ρ] : NNd K (tTup K ρ) := ⟨fun x h => nomatch h⟩

section
variable {X : Cx} {Γ : List Slot} {e a b c : Expr} {es : List Expr} {pos p apos : Pos} {nm : Str} {α β γ δ : Type}
theorem dp_same {K : PySem.W.Frag} {H H' : Hp} (h : Same H H') : ∀ (d : PyData) (v : V), Dp K H v d → Dp K H' v d := by
  intro d
  refine PyData.rec (motive_1 := fun d => ∀ v, Dp K H v d → Dp K H' v d) (motive_2 := fun ds => ∀ vs, DpAll K H vs ds → DpAll K H' vs ds) (motive_3 := fun _ => True) (motive_4 := fun _ => True) ?_ ?_ ?_ ?_ ?_ ?_ ?_ ?_ ?_ ?_ ?_ ?_ d
  · intro v h; cases h; exact .non
  · intro b v h; cases h; exact .bl b
  · intro i v h; cases h; exact .int i
  · intro x v h; cases h; exact .str x
  · intro xs ih v k; cases k with | lst s q => exact .lst (h.seq s) (ih _ q)
  · intro xs ih v k; cases k with | tup s q => exact .tup (same_tup h s) (ih _ q)
  · intro kvs _ v k; cases k
  · intro vs k; cases k; exact .nil
  · intro x xs h1 h2 vs k; cases k with | cons r q => exact .cons (h1 _ r) (h2 _ q)
  · trivial
  · intros; trivial
  · intros; trivial
theorem shaped_of {K : PySem.W.Frag} {τ : Ty α} [DatT K τ] (x : α) (hd : DatT.dep K τ ≤ 64) : SeqAt.shaped (DatT.enc K τ x) = true := by
  show (_ && decide _) = true
  rw [Bool.and_eq_true]
  exact ⟨DatT.lay (K := K) (τ := τ) x, decide_eq_true (Nat.le_trans (DatT.hdep (K := K) (τ := τ) x) hd)⟩
theorem eqv_dec {K : PySem.W.Frag} {τ : Ty α} [DatT K τ] [DecidableEq α] (x y : α) : PyData.eqv (DatT.enc K τ x) (DatT.enc K τ y) = decide (x = y) := by
  by_cases h : x = y
  · rw [decide_eq_true h, (DatT.eqv (K := K) (τ := τ) x y).mpr h]
  · rw [decide_eq_false h]
    cases q : PyData.eqv (DatT.enc K τ x) (DatT.enc K τ y) with
    | false => rfl
    | true => exact absurd ((DatT.eqv (K := K) (τ := τ) x y).mp q) h
theorem oc_eqD {τ : Ty α} [DatT X.K τ] [DecidableEq α] (hu : X.A.units + 64 < cLine) (hd : DatT.dep X.K τ ≤ 64 := by decide) : OpT X (compareOp .Eq) τ τ tBool (fun x y => some (decide (x = y))) :=
  opT_of (op_eqD hu) fun x y z hz v w B H Q sb ra rb q => ⟨DatT.enc X.K τ x, DatT.enc X.K τ y, dp_same sb _ _ (DatT.dp (K := X.K) x v B ra), dp_same sb _ _ (DatT.dp (K := X.K) y w B rb), shaped_of x hd, shaped_of y hd, by
    rw [eqv_dec]; exact q _ B H (Gr.refl sb) (by cases hz; rfl)⟩
theorem oc_neD {τ : Ty α} [DatT X.K τ] [DecidableEq α] (hu : X.A.units + 64 < cLine) (hd : DatT.dep X.K τ ≤ 64 := by decide) : OpT X (compareOp .NotEq) τ τ tBool (fun x y => some (!decide (x = y))) :=
  opT_of (op_neD hu) fun x y z hz v w B H Q sb ra rb q => ⟨DatT.enc X.K τ x, DatT.enc X.K τ y, dp_same sb _ _ (DatT.dp (K := X.K) x v B ra), dp_same sb _ _ (DatT.dp (K := X.K) y w B rb), shaped_of x hd, shaped_of y hd, by
    rw [eqv_dec]; exact q _ B H (Gr.refl sb) (by cases hz; rfl)⟩
/-! `in` -/
theorem any_eqv {K : PySem.W.Frag} {τ : Ty α} [DatT K τ] [DecidableEq α] (x : α) : ∀ ys : List α, (ys.map (DatT.enc K τ)).any (fun z => PyData.eqv z (DatT.enc K τ x)) = decide (x ∈ ys)
  | [] => by simp
  | y :: ys => by
    rw [List.map_cons, List.any_cons, any_eqv x ys, eqv_dec]
    by_cases h : x = y
    · subst h; simp
    · have h' : ¬ y = x := fun e => h e.symm
      simp [h, h']
theorem oc_inD {τ : Ty α} [DatT X.K τ] [DecidableEq α] (hu : X.A.units + 65 < cLine) (hd : DatT.dep X.K τ < 64 := by decide) : OpT X (compareOp .In) τ (tList X.K τ) tBool (fun x ys => some (decide (x ∈ ys))) :=
  opT_of (op_inD hu) fun x y z hz v w B H Q sb ra rb q => ⟨DatT.enc X.K τ x, y.map (DatT.enc X.K τ), dp_same sb _ _ (DatT.dp (K := X.K) x v B ra), dp_same sb _ _ (DatT.dp (K := X.K) (τ := tList X.K τ) y w B rb), shaped_of x (Nat.le_of_lt hd), shaped_of (K := X.K) (τ := tList X.K τ) y hd, by
    rw [any_eqv]; exact q _ B H (Gr.refl sb) (by cases hz; rfl)⟩
theorem oc_notInD {τ : Ty α} [DatT X.K τ] [DecidableEq α] (hu : X.A.units + 65 < cLine) (hd : DatT.dep X.K τ < 64 := by decide) : OpT X (compareOp .NotIn) τ (tList X.K τ) tBool (fun x ys => some (!decide (x ∈ ys))) :=
  opT_of (op_notInD hu) fun x y z hz v w B H Q sb ra rb q => ⟨DatT.enc X.K τ x, y.map (DatT.enc X.K τ), dp_same sb _ _ (DatT.dp (K := X.K) x v B ra), dp_same sb _ _ (DatT.dp (K := X.K) (τ := tList X.K τ) y w B rb), shaped_of x (Nat.le_of_lt hd), shaped_of (K := X.K) (τ := tList X.K τ) y hd, by
    rw [any_eqv]; exact q _ B H (Gr.refl sb) (by cases hz; rfl)⟩
/-! built-ins -/
theorem fresh_of {H H' : Hp} {a : Addr} (s : Same H H') (h : H' a = none) : H a = none := by
  cases z : H a with
  | none => rfl
  | some u => rw [s a u z] at h; cases h
def BIF (X : Cx) (nm : Str) (ρ : TyT α) (g : α → Option β) (τ : Ty β) : Prop := ∃ r : List V → Hp → VK → Prop, ((∃ id, bootBuiltins nm = some (.builtin id) ∧ CallR X (.builtin id) r) ∨ ∃ T, bootBuiltins nm = some (.type T) ∧ CallR X (.type T) r) ∧
  ∀ x z, g x = some z → ∀ vs B H (Q : VK), Same B H → ρ.rel x vs B → (∀ v' B' H', Gr B H B' H' → τ.rel z v' B' → Q v' H') → r vs H Q
def BIO (X : Cx) (nm : Str) (ρ : TyT α) (g : α → Option β) (μ : β → MO) : Prop := ∃ r : List V → Hp → VK → Prop, ((∃ id, bootBuiltins nm = some (.builtin id) ∧ CallR X (.builtin id) r) ∨ ∃ T, bootBuiltins nm = some (.type T) ∧ CallR X (.type T) r) ∧
  ∀ x z, g x = some z → ∀ vs B H (Q : VK), Same B H → ρ.rel x vs B → (∀ v' B' M' H', Gr B H B' H' → Same M' H' → (∀ a o, M' a = some o → H a = none ∧ B' a = none) → (μ z).p v' B' M' → Q v' H') → r vs H Q
theorem ev_bi {ρ : TyT α} {g : α → Option β} {τ : Ty β} {m : Option α} (bi : BIF X nm ρ g τ) (hg : Gl X nm) (hm : X.mg nm = none) (ha : EAm X (e :: es) Γ m ρ) (hn : nm ≠ "__name__" := by decide) (hdb : (nm == ("__debug__" : Str)) = false := by decide)
    (he : starEach (e :: es) X.env = (false, eval e X.env) :: starEach es X.env := by rfl) (hpl : (backTo pos (starEach es X.env)).any (·.1) = false := by rfl) : EVm X (.Call (.Name nm p) (e :: es) [] pos) Γ (m.bind g) τ := fun z hz B M σ H Q i ok q => by
  obtain ⟨x, h1, h2⟩ := bind_of hz
  obtain ⟨r, hr, hq⟩ := bi
  have fin : wA X (e :: es) σ H fun vs H1 => r vs H1 Q := ha x h1 B M σ H _ i ok fun vs B1 H1 g1 r1 => hq x z h2 vs B1 H1 Q g1.bh r1 fun v' B' H' g2 r2 => q v' B' H' (g1.trans g2) r2
  rcases hr with ⟨id, hv, hc⟩ | ⟨T, hv, hc⟩
  · exact wE_of (pe_callB hc hg hm hv paW hn hdb he hpl) fin
  · exact wE_of (pe_callTy hc hg hm hv paW hn hdb he hpl) fin
theorem eo_bi {ρ : TyT α} {g : α → Option β} {μ : β → MO} {m : Option α} (bi : BIO X nm ρ g μ) (hg : Gl X nm) (hm : X.mg nm = none) (ha : EAm X (e :: es) Γ m ρ) (hn : nm ≠ "__name__" := by decide) (hdb : (nm == ("__debug__" : Str)) = false := by decide)
    (he : starEach (e :: es) X.env = (false, eval e X.env) :: starEach es X.env := by rfl) (hpl : (backTo pos (starEach es X.env)).any (·.1) = false := by rfl) : EOm X (.Call (.Name nm p) (e :: es) [] pos) Γ (m.bind g) μ := fun z hz B M σ H Q i ok q => by
  obtain ⟨x, h1, h2⟩ := bind_of hz
  obtain ⟨r, hr, hq⟩ := bi
  have fin : wA X (e :: es) σ H fun vs H1 => r vs H1 Q := ha x h1 B M σ H _ i ok fun vs B1 H1 g1 r1 => hq x z h2 vs B1 H1 Q g1.bh r1 fun v' B' M' H' g2 s2 n2 r2 => q v' B' M' H' (g1.trans g2) s2 (fun a o h => ⟨fresh_of g1.hh (n2 a o h).1, (n2 a o h).2⟩) r2
  rcases hr with ⟨id, hv, hc⟩ | ⟨T, hv, hc⟩
  · exact wE_of (pe_callB hc hg hm hv paW hn hdb he hpl) fin
  · exact wE_of (pe_callTy hc hg hm hv paW hn hdb he hpl) fin
variable {τ : Ty α}
theorem bi_len : BIF X "len" (tOne (tList X.K τ)) (fun xs => some (xs.length : Int)) tInt := ⟨_, .inl ⟨_, PySem.boot_len, call_len_seq⟩, fun x z hz vs B H Q sb ⟨v, ev, a, ws, ea, sq, pr⟩ q => by
  subst ev ea
  refine ⟨a, ws, rfl, .inl (SqL.of (sb _ _ sq)), q _ B H (Gr.refl sb) ?_⟩
  cases hz
  rw [← paired_len pr]; rfl⟩
theorem bi_lenT : BIF X "len" (tOne (tTups X.K τ)) (fun xs => some (xs.length : Int)) tInt := ⟨_, .inl ⟨_, PySem.boot_len, call_len_seq⟩, fun x z hz vs B H Q sb ⟨v, ev, a, ws, ea, sq, pr⟩ q => by
  subst ev ea
  refine ⟨a, ws, rfl, .inr (same_tup sb sq), q _ B H (Gr.refl sb) ?_⟩
  cases hz
  rw [← paired_len pr]; rfl⟩
theorem bi_lenP {ρ : TyT α} : BIF X "len" (tOne (tTup X.K ρ)) (fun _ => some (ρ.len : Int)) tInt := ⟨_, .inl ⟨_, PySem.boot_len, call_len_seq⟩, fun x z hz vs B H Q sb ⟨v, ev, a, ws, ea, sq, pr⟩ q => by
  subst ev ea
  refine ⟨a, ws, rfl, .inr (same_tup sb sq), q _ B H (Gr.refl sb) ?_⟩
  cases hz
  rw [ρ.hlen _ _ _ pr]; rfl⟩
theorem bi_lenS : BIF X "len" (tOne (tScr X.K)) (fun xs => some (xs.length : Int)) tInt := ⟨_, .inl ⟨_, PySem.boot_len, call_len_seq⟩, fun x z hz vs B H Q sb ⟨v, ev, a, ea, sq⟩ q => by
  subst ev ea
  refine ⟨a, _, rfl, .inl (sb.seq sq), q _ B H (Gr.refl sb) ?_⟩
  cases hz
  rw [List.length_map]; rfl⟩
theorem bi_abs : BIF X "abs" (tOne tInt) (fun i => some (if i < 0 then -i else i)) tInt := ⟨_, .inl ⟨"abs", by decide +kernel, call_abs⟩, fun x z hz vs B H Q sb ⟨v, ev, r⟩ q => by
  subst ev; cases r; cases hz
  exact ⟨x, rfl, q _ B H (Gr.refl sb) rfl⟩⟩
theorem bi_max2 (hc : X.calm = true) : BIF X "max" (tCons tInt (tOne tInt)) (fun p => some (if p.2 > p.1 then p.2 else p.1)) tInt := ⟨_, .inl ⟨"max", by decide +kernel, call_max2 hc⟩, fun x z hz vs B H Q sb ⟨v, ws, ev, r, v', ev', r'⟩ q => by
  subst ev ev'; cases r; cases r'; cases hz
  exact ⟨x.1, x.2, rfl, q _ B H (Gr.refl sb) rfl⟩⟩
theorem bi_min2 (hc : X.calm = true) : BIF X "min" (tCons tInt (tOne tInt)) (fun p => some (if p.2 < p.1 then p.2 else p.1)) tInt := ⟨_, .inl ⟨"min", by decide +kernel, call_min2 hc⟩, fun x z hz vs B H Q sb ⟨v, ws, ev, r, v', ev', r'⟩ q => by
  subst ev ev'; cases r; cases r'; cases hz
  exact ⟨x.1, x.2, rfl, q _ B H (Gr.refl sb) rfl⟩⟩
theorem bi_int : BIF X "int" (tOne tInt) (fun i => some i) tInt := ⟨_, .inr ⟨"int", by decide +kernel, call_int1⟩, fun x z hz vs B H Q sb ⟨v, ev, r⟩ q => by
  subst ev; cases r; cases hz
  exact .inl ⟨x, rfl, q _ B H (Gr.refl sb) rfl⟩⟩
theorem bi_intB : BIF X "int" (tOne tBool) (fun b => some (if b = true then 1 else 0)) tInt := ⟨_, .inr ⟨"int", by decide +kernel, call_int1⟩, fun x z hz vs B H Q sb ⟨v, ev, r⟩ q => by
  subst ev; cases r; cases hz
  exact .inr ⟨x, rfl, q _ B H (Gr.refl sb) rfl⟩⟩
/-! places -/
theorem atI_paired {F : α → V → Prop} {xs : List α} {vs : List V} {i : Int} {x : α} (h : Paired F xs vs) (e : atI xs i = some x) : ∃ v, atI vs i = some v ∧ F x v := by
  unfold atI at e ⊢
  rw [← paired_len h]
  cases q : ixN xs.length i with
  | none => rw [q] at e; cases e
  | some j =>
    rw [q] at e
    exact paired_at h e
theorem ev_ix {m : Option (List α)} {m' : Option Int} (ha : EVm X a Γ m (tList X.K τ)) (hb : EVm X b Γ m' tInt) (hs : PlainIx b := by intro _ _; rfl) : EVm X (.Subscript a b pos) Γ (o2 atI m m') τ := fun z hz B M σ H Q i ok q => by
  obtain ⟨xs, j, h1, h2, h3⟩ := o2_of hz
  refine wE_of (pe_ix ix_list peW peW hs) (ha xs h1 B M σ H _ i ok fun v B1 H1 g1 r1 => hb j h2 B1 M σ H1 _ (i.gr g1) (ok.mono g1.bb) fun w B2 H2 g2 r2 => ?_)
  obtain ⟨a, vs, ea, sq, pr⟩ := (tList X.K τ).mono _ _ _ _ g2.bb r1
  obtain ⟨u, hu, ru⟩ := atI_paired pr h3
  exact ⟨a, vs, j, u, ea, r2, SqL.of (g2.bh _ _ sq), hu, q u B2 H2 (g1.trans g2) ru⟩
theorem ev_ixS {m : Option (List Int)} {m' : Option Int} (ha : EVm X a Γ m (tScr X.K)) (hb : EVm X b Γ m' tInt) (hs : PlainIx b := by intro _ _; rfl) : EVm X (.Subscript a b pos) Γ (o2 atI m m') tInt := fun z hz B M σ H Q i ok q => by
  obtain ⟨xs, j, h1, h2, h3⟩ := o2_of hz
  refine wE_of (pe_ix ix_list peW peW hs) (ha xs h1 B M σ H _ i ok fun v B1 H1 g1 r1 => hb j h2 B1 M σ H1 _ (i.gr g1) (ok.mono g1.bb) fun w B2 H2 g2 r2 => ?_)
  obtain ⟨a, ea, sq⟩ := (tScr X.K).mono _ _ _ _ g2.bb r1
  have hu : atI (xs.map V.int) j = some (.int z) := by
    unfold atI at h3 ⊢
    rw [List.length_map]
    cases q : ixN xs.length j with
    | none => rw [q] at h3; cases h3
    | some l =>
      rw [q] at h3
      show (xs.map V.int)[l]? = _
      rw [List.getElem?_map, show xs[l]? = some z from h3]; rfl
  exact ⟨a, _, j, _, ea, r2, g2.bh.seq sq, hu, q _ B2 H2 (g1.trans g2) rfl⟩
theorem ev_ixT {ρ : TyT α} {τb : Ty β} {g : α → β} {m : Option α} {j : Nat} {l p2} (ht : TAt ρ j τb g) (ha : EVm X a Γ m (tTup X.K ρ)) : EVm X (.Subscript a (.Constant (.int (j : Int)) l p2) pos) Γ (o1 g m) τb := fun z hz B M σ H Q i ok q => by
  obtain ⟨x, h1, rfl⟩ := o1_of hz
  refine wE_of (pe_ix ix_tup peW pe_int (fun _ _ => rfl)) (ha x h1 B M σ H _ i ok fun v B1 H1 g1 ⟨a, vs, ea, sq, r⟩ => ?_)
  obtain ⟨u, hu, ru⟩ := ht.get x vs B1 r
  exact ⟨a, vs, j, u, ea, rfl, same_tup g1.bh sq, atI_nat hu, q u B1 H1 g1 ru⟩
theorem ev_ixU {m : Option (List α)} {m' : Option Int} (ha : EVm X a Γ m (tTups X.K τ)) (hb : EVm X b Γ m' tInt) (hs : PlainIx b := by intro _ _; rfl) : EVm X (.Subscript a b pos) Γ (o2 atI m m') τ := fun z hz B M σ H Q i ok q => by
  obtain ⟨xs, j, h1, h2, h3⟩ := o2_of hz
  refine wE_of (pe_ix ix_tup peW peW hs) (ha xs h1 B M σ H _ i ok fun v B1 H1 g1 r1 => hb j h2 B1 M σ H1 _ (i.gr g1) (ok.mono g1.bb) fun w B2 H2 g2 r2 => ?_)
  obtain ⟨a, vs, ea, sq, pr⟩ := (tTups X.K τ).mono _ _ _ _ g2.bb r1
  obtain ⟨u, hu, ru⟩ := atI_paired pr h3
  exact ⟨a, vs, j, u, ea, r2, same_tup g2.bh sq, hu, q u B2 H2 (g1.trans g2) ru⟩
end
end G
/-! G6: comprehensions, freezing, lists made of lists. -/
namespace G
open PySem PySem.Spec PyProof.Rows L2
/-! ### the slots of a comprehension's names -/
theorem wipe_at (σ : L2.St) : ∀ (vs : List Nat) (j : Nat), (wipe σ vs)[j]? = if j ∈ vs ∧ j < σ.length then some none else σ[j]?
  | [], j => by simp [wipe]
  | v :: vs, j => by
    unfold wipe
    rw [List.getElem?_set, wipe_at σ vs j, wipe_length]
    by_cases h : v = j
    · subst h
      by_cases hl : v < σ.length
      · simp [hl]
      · simp [hl]
    · have h' : ¬ j = v := fun e => h e.symm
      simp [h, h']
theorem wipe_set {σ : L2.St} {i : Nat} {o : Option V} {vs : List Nat} (h : i ∈ vs) : wipe (σ.set i o) vs = wipe σ vs := by
  apply List.ext_getElem?
  intro j
  rw [wipe_at, wipe_at, List.length_set, List.getElem?_set]
  by_cases e : i = j
  · subst e
    by_cases hl : i < σ.length
    · simp [h, hl]
    · simp [hl]
  · simp [e]
theorem wipe_wipe {σ : L2.St} {vs : List Nat} : wipe (wipe σ vs) vs = wipe σ vs := by
  apply List.ext_getElem?
  intro j
  rw [wipe_at, wipe_at, wipe_length]
  split <;> rfl
def wipeS : List Slot → List Nat → List Slot
  | Γ, [] => Γ
  | Γ, v :: vs => st (wipeS Γ vs) v .any
theorem OkS.forget {B : Hp} : ∀ {Γ : List Slot} {σ : L2.St} {M : Hp} (i : Nat), OkS Γ σ B M → ∃ M', Same M' M ∧ OkS (st Γ i .any) (σ.set i none) B M'
  | [], [], M, i, k => ⟨M, Same.refl _, by cases i <;> exact k⟩
  | .any :: Γ, _ :: σ, M, 0, k => ⟨M, Same.refl _, k⟩
  | .any :: Γ, _ :: σ, M, i + 1, k => by
    obtain ⟨M', s, q⟩ := OkS.forget (Γ := Γ) (σ := σ) i k
    exact ⟨M', s, q⟩
  | .val ψ :: Γ, o :: σ, M, 0, ⟨_, k⟩ => ⟨M, Same.refl _, k⟩
  | .val ψ :: Γ, o :: σ, M, i + 1, ⟨z, k⟩ => by
    obtain ⟨M', s, q⟩ := OkS.forget i k
    exact ⟨M', s, z, q⟩
  | .own ψ :: Γ, o :: σ, M, 0, ⟨_, M1, M2, _, m, d, _, k⟩ => ⟨M2, by rw [m]; exact same_un_r d, k⟩
  | .own ψ :: Γ, o :: σ, M, i + 1, ⟨w, M1, M2, e, m, d, z, k⟩ => by
    obtain ⟨M', s, q⟩ := OkS.forget i k
    exact ⟨un M1 M', by rw [m]; exact same_un' (Same.refl _) s d, w, M1, M', e, rfl, (d.symm.sub s).symm, z, q⟩
  | [], _ :: _, _, _, k => k.elim
  | .any :: _, [], _, _, k => k.elim
  | .val _ :: _, [], _, _, k => k.elim
  | .own _ :: _, [], _, _, k => k.elim
theorem OkS.wipe {B : Hp} {Γ : List Slot} {σ : L2.St} : ∀ (vs : List Nat) {M : Hp}, OkS Γ σ B M → ∃ M', Same M' M ∧ OkS (wipeS Γ vs) (L2.wipe σ vs) B M'
  | [], M, k => ⟨M, Same.refl _, k⟩
  | v :: vs, M, k => by
    obtain ⟨M1, s1, k1⟩ := OkS.wipe vs k
    obtain ⟨M2, s2, k2⟩ := k1.forget v
    exact ⟨M2, s2.trans s1, k2⟩

/-- an owned slot, taken out; a value of the base is put in its place -/
theorem OkS.take {ψ : MO} {B : Hp} : ∀ {Γ : List Slot} {σ : L2.St} {M : Hp} {i : Nat}, OkS Γ σ B M → sl Γ i = .own ψ →
    ∃ v M1 M2, σ[i]? = some (some v) ∧ M = un M1 M2 ∧ Dj M1 M2 ∧ ψ.p v B M1 ∧ ∀ (φ : MP) B', Same B B' → φ.p v B' → OkS (st Γ i (.val φ)) σ B' M2
  | [], [], _, _, _, q => nomatch q
  | .any :: Γ, _ :: σ, M, 0, k, q => nomatch q
  | .any :: Γ, _ :: σ, M, i + 1, k, q => by
    obtain ⟨v, M1, M2, e, m, d, p, z⟩ := OkS.take (i := i) (Γ := Γ) (σ := σ) k q
    exact ⟨v, M1, M2, by simpa using e, m, d, p, fun φ B' s p' => z φ B' s p'⟩
  | .val φ :: Γ, o :: σ, M, 0, _, q => nomatch q
  | .val φ :: Γ, o :: σ, M, i + 1, ⟨⟨w, ew, pw⟩, k⟩, q => by
    obtain ⟨v, M1, M2, e, m, d, p, z⟩ := OkS.take (i := i) k q
    exact ⟨v, M1, M2, by simpa using e, m, d, p, fun χ B' s p' => ⟨⟨w, ew, φ.mono w B B' s pw⟩, z χ B' s p'⟩⟩
  | .own χ :: Γ, o :: σ, M, 0, ⟨v, M1, M2, e, m, d, p, k⟩, q => by
    obtain rfl : χ = ψ := Slot.own.inj q
    exact ⟨v, M1, M2, by simp [e], m, d, p, fun φ B' s p' => ⟨⟨v, e, p'⟩, k.mono s⟩⟩
  | .own χ :: Γ, o :: σ, M, i + 1, ⟨w, N1, N2, ew, mw, dw, pw, k⟩, q => by
    obtain ⟨v, M1, M2, e, m, d, p, z⟩ := OkS.take (i := i) k q
    have dN : Dj N1 (un M1 M2) := by rw [← m]; exact dw
    have d1 : Dj M1 N1 := dN.symm.un_l
    have d2 : Dj M2 N1 := dN.symm.un_r d
    refine ⟨v, M1, un N1 M2, by simpa using e, ?_, (Dj.un d1.symm d.symm).symm, p, fun φ B' s p' => ?_⟩
    · rw [mw, m, ← un_assoc, un_comm d1.symm, un_assoc]
    · exact ⟨w, N1, M2, ew, rfl, d2.symm, χ.mono w B B' N1 s pw, z φ B' s p'⟩
  | [], _ :: _, _, _, k, _ => k.elim
  | .any :: _, [], _, _, k, _ => k.elim
  | .val _ :: _, [], _, _, k, _ => k.elim
  | .own _ :: _, [], _, _, k, _ => k.elim

def mapO {α β : Type} (f : α → Option β) : List α → Option (List β)
  | [] => some []
  | x :: xs => (f x).bind fun y => (mapO f xs).bind fun ys => some (y :: ys)
def compO {α β : Type} (t : α → Option Bool) (f : α → Option β) : List α → Option (List β)
  | [] => some []
  | x :: xs => (t x).bind fun b => if b = true then (f x).bind fun y => (compO t f xs).bind fun ys => some (y :: ys) else compO t f xs
theorem compO_yes {α β : Type} (f : α → Option β) : ∀ xs : List α, compO (fun _ => some true) f xs = mapO f xs
  | [] => rfl
  | x :: xs => by
    show (f x).bind (fun y => (compO (fun _ => some true) f xs).bind fun ys => some (y :: ys)) = _
    rw [compO_yes f xs]
    rfl
theorem mapO_some {α β : Type} (g : α → β) : ∀ xs : List α, mapO (fun x => some (g x)) xs = some (xs.map g)
  | [] => rfl
  | x :: xs => by
    show ((mapO (fun x => some (g x)) xs).bind fun ys => some (g x :: ys)) = _
    rw [mapO_some g xs]
    rfl
theorem mapO_eq {α β : Type} {f : α → Option β} (g : α → β) {xs : List α} (h : ∀ x ∈ xs, f x = some (g x)) : mapO f xs = some (xs.map g) := by
  induction xs with
  | nil => rfl
  | cons x xs ih =>
    show (f x).bind (fun y => (mapO f xs).bind fun ys => some (y :: ys)) = _
    rw [h x (List.mem_cons_self ..), ih fun y hy => h y (List.mem_cons_of_mem _ hy)]
    rfl
theorem compO_eq {α β : Type} {t : α → Option Bool} {f : α → Option β} (p : α → Bool) (g : α → β) {xs : List α} (ht : ∀ x ∈ xs, t x = some (p x)) (h : ∀ x ∈ xs, p x = true → f x = some (g x)) : compO t f xs = some ((xs.filter p).map g) := by
  induction xs with
  | nil => rfl
  | cons x xs ih =>
    have ih' := ih (fun y hy => ht y (List.mem_cons_of_mem _ hy)) fun y hy => h y (List.mem_cons_of_mem _ hy)
    show (t x).bind (fun b => if b = true then (f x).bind fun y => (compO t f xs).bind fun ys => some (y :: ys) else compO t f xs) = _
    rw [ht x (List.mem_cons_self ..), List.filter_cons]
    cases hp : p x with
    | true =>
      show (f x).bind (fun y => (compO t f xs).bind fun ys => some (y :: ys)) = _
      rw [h x (List.mem_cons_self ..) hp, ih']
      rfl
    | false => exact ih'
theorem compO_len {α β : Type} {t : α → Option Bool} {f : α → Option β} : ∀ {xs : List α} {ys : List β}, compO t f xs = some ys → ys.length ≤ xs.length
  | [], ys, h => by cases h; exact Nat.le_refl _
  | x :: xs, ys, h => by
    obtain ⟨b, _, h2⟩ := bind_of (show (t x).bind _ = some ys from h)
    cases b with
    | true =>
      obtain ⟨y, _, h3⟩ := bind_of (show (f x).bind _ = some ys from h2)
      obtain ⟨zs, h4, h5⟩ := bind_of h3
      cases h5
      have := compO_len h4
      simp; omega
    | false =>
      have := compO_len (show compO t f xs = some ys from h2)
      simp; omega
/-- as compO, the list made so far ahead -/
theorem compO_drop {α β : Type} {t : α → Option Bool} {f : α → Option β} {xs : List α} {i : Nat} {x : α} {ys : List β} (hx : xs[i]? = some x) (h : compO t f (xs.drop i) = some ys) :
    ∃ b, t x = some b ∧ (b = true → ∃ y zs, f x = some y ∧ compO t f (xs.drop (i + 1)) = some zs ∧ ys = y :: zs) ∧ (b = false → compO t f (xs.drop (i + 1)) = some ys) := by
  rw [drop_at hx] at h
  obtain ⟨b, h1, h2⟩ := bind_of (show (t x).bind _ = some ys from h)
  refine ⟨b, h1, fun hb => ?_, fun hb => ?_⟩
  · subst hb
    obtain ⟨y, h3, h4⟩ := bind_of (show (f x).bind _ = some ys from h2)
    obtain ⟨zs, h5, h6⟩ := bind_of h4
    cases h6
    exact ⟨y, zs, h3, h5, rfl⟩
  · subst hb
    exact h2

section
variable {X : Cx} {Γ Γ' : List Slot} {e a b c tg iter elt : Expr} {es ifs : List Expr} {pos p apos py spos : Pos} {nm : Str} {α β γ δ : Type} {rest : List Stmt} {O : Type} {J : O → Oc}
abbrev Blk (X : Cx) (scope : Scope) (s : Shared) (H : Hp) (C : Addr) (cl : List (Str × Addr)) (fp : List Addr) : Cx := X.blk s H scope (compEnvC scope cl C X.env) fp
/-- the target of a comprehension: names of its own alone -/
def PGc (X : Cx) (scope : Scope) (tg : Expr) (τ : Ty α) (up : List Slot → α → List Slot) (is : List Nat) : Prop := ∃ g, (∀ s H C cl fp, PG (Blk X scope s H C cl fp) tg g) ∧ ∀ x v B M σ H Γ (Q : L2.St → Hp → Prop), In B M H → OkS Γ σ B M → τ.rel x v B →
  (∀ σ' M', Same M' M → OkS (up Γ x) σ' B M' → (∀ vs, (∀ i ∈ is, i ∈ vs) → wipe σ' vs = wipe σ vs) → Q σ' H) → g v σ H Q
def PGcs (X : Cx) (scope : Scope) (ts : List Expr) (ρ : TyT α) (up : List Slot → α → List Slot) (is : List Nat) : Prop := ∃ g, (∀ s H C cl fp, PGs (Blk X scope s H C cl fp) ts g) ∧ ∀ x vs B M σ H Γ (Q : L2.St → Hp → Prop), In B M H → OkS Γ σ B M → ρ.rel x vs B →
  (∀ σ' M', Same M' M → OkS (up Γ x) σ' B M' → (∀ vs, (∀ i ∈ is, i ∈ vs) → wipe σ' vs = wipe σ vs) → Q σ' H) → g vs σ H Q
theorem pgc_name {scope : Scope} {i : Nat} {x : Str} {τ : Ty α} (h : ∀ s H C cl fp, PG (Blk X scope s H C cl fp) (.Name x pos) (gName i)) : PGc X scope (.Name x pos) τ (fun Γ y => st Γ i (.val (τ.P y))) [i] :=
  ⟨gName i, h, fun y v B M σ H Γ Q inn ok r q => by
    obtain ⟨M', s, ok'⟩ := ok.set (i := i) (φ := τ.P y) r
    exact q _ M' s ok' fun vs hv => wipe_set (hv i (List.mem_singleton.mpr rfl))⟩
theorem pgcs_one {scope : Scope} {τ : Ty α} {up : List Slot → α → List Slot} {is : List Nat} (h : PGc X scope e τ up is) (hs : ∀ s H C cl fp, (assignEach [e] (Blk X scope s H C cl fp).env).map (·.2) = assign e (Blk X scope s H C cl fp).env :: (assignEach [] (Blk X scope s H C cl fp).env).map (·.2) := by intros; rfl) : PGcs X scope [e] (tOne τ) up is := by
  obtain ⟨g, p, q⟩ := h
  exact ⟨_, fun s H C cl fp => pgs_cons (p s H C cl fp) pgs_nil (hs s H C cl fp), fun x vs B M σ H Γ Q inn ok ⟨v, ev, r⟩ k => ⟨v, [], ev, q x v B M σ H Γ _ inn ok r fun σ' M' s ok' w => ⟨rfl, k σ' M' s ok' w⟩⟩⟩
theorem pgcs_con {scope : Scope} {τ : Ty α} {ρ : TyT β} {up : List Slot → α → List Slot} {up' : List Slot → β → List Slot} {is is' : List Nat} (h : PGc X scope e τ up is) (h' : PGcs X scope es ρ up' is') (hs : ∀ s H C cl fp, (assignEach (e :: es) (Blk X scope s H C cl fp).env).map (·.2) = assign e (Blk X scope s H C cl fp).env :: (assignEach es (Blk X scope s H C cl fp).env).map (·.2) := by intros; rfl) : PGcs X scope (e :: es) (tCons τ ρ) (fun Γ x => up' (up Γ x.1) x.2) (is ++ is') := by
  obtain ⟨g, p, q⟩ := h
  obtain ⟨g', p', q'⟩ := h'
  exact ⟨_, fun s H C cl fp => pgs_cons (p s H C cl fp) (p' s H C cl fp) (hs s H C cl fp), fun x vs B M σ H Γ Q inn ok ⟨v, ws, ev, r, rs⟩ k => ⟨v, ws, ev, q x.1 v B M σ H Γ _ inn ok r fun σ' M' s ok' w => q' x.2 ws B M' σ' H _ Q ⟨inn.b, s.trans inn.m, inn.dj.sub s⟩ ok' rs fun σ2 M2 s2 ok2 w2 => k σ2 M2 (s2.trans s) ok2 fun vs hv => (w2 vs fun i hi => hv i (List.mem_append_right _ hi)).trans (w vs fun i hi => hv i (List.mem_append_left _ hi))⟩⟩
theorem pgc_tup {scope : Scope} {n : Nat} {ρ : TyT α} {up : List Slot → α → List Slot} {is : List Nat} (hc : X.calm = true) (h : PGcs X scope es ρ up is) (hn : ∀ s H C cl fp, (assignEach es (Blk X scope s H C cl fp).env).length = ρ.len := by intros; rfl) (hst : ∀ s H C cl fp, (assignEach es (Blk X scope s H C cl fp).env).findIdx? (·.1) = none := by intros; rfl) : PGc X scope (.Tuple es n pos) (tTup X.K ρ) up is := by
  obtain ⟨g, p, q⟩ := h
  refine ⟨gTup X.K ρ.len g, fun s H C cl fp => pg_tup hc (p s H C cl fp) (hn s H C cl fp) (hst s H C cl fp), fun x v B M σ H Γ Q inn ok ⟨a, vs, ev, sq, r⟩ k => ⟨a, vs, ev, same_tup inn.b sq, ρ.hlen _ _ _ r, q x vs B M σ H Γ Q inn ok r k⟩⟩
/-- the tests of a comprehension, in its block -/
def PTc (X : Cx) (scope : Scope) (ifs : List Expr) (Γ : List Slot) (m : Option Bool) : Prop := ∃ t, (∀ s H C cl fp, PTs (Blk X scope s H C cl fp) ifs t) ∧ ∀ b, m = some b → ∀ B M σ H (Q : Bool → Hp → Prop), In B M H → OkS Γ σ B M → (∀ B' H', Gr B H B' H' → Q b H') → t σ H Q
theorem ptc_x : True := trivial
theorem ptc_nil {scope : Scope} : PTc X scope [] Γ (some true) := ⟨tYes, fun _ _ _ _ _ => pts_nil, fun b hb B M σ H Q i ok q => by cases hb; exact q B H (Gr.refl i.b)⟩
def tBlk (X : Cx) (scope : Scope) (e : Expr) : TT := fun σ H Q => ∀ s H0 C cl fp, wT (Blk X scope s H0 C cl fp) e σ H Q
theorem ptc_one {scope : Scope} {m : Option Bool} (h : ∀ s H C cl fp, ETm (Blk X scope s H C cl fp) c Γ m) : PTc X scope [c] Γ m :=
  ⟨tBlk X scope c, fun s H C cl fp => pts_one ⟨fun pins s' σ H' Q I q => q s H C cl fp pins s' I⟩, fun b hb B M σ H Q i ok q s H0 C cl fp => h s H0 C cl fp b hb B M σ H Q i ok q⟩
def eBlk (X : Cx) (scope : Scope) (e : Expr) : TE := fun σ H Q => ∀ s H0 C cl fp, wE (Blk X scope s H0 C cl fp) e σ H Q
theorem pe_blk {scope : Scope} : ∀ s H C cl fp, PE (Blk X scope s H C cl fp) e (eBlk X scope e) := fun s H C cl fp => ⟨fun pins s' σ H' Q I q => q s H C cl fp pins s' I⟩
/-- how a comprehension reads -/
theorem lc_run {scope : Scope} {own : List (Str × Nat)} {m : Option (List α)} {τ : Ty α} {up : List Slot → α → List Slot} {is : List Nat} {ft : α → Option Bool} {fe : α → Option β} {τe : Ty β} (hi : PIm X tg iter Γ m τ) (hg : PGc X scope tg τ up is) (his : ∀ i ∈ is, i ∈ own.map (·.2))
    (ht : ∃ t : TT, (∀ s H C cl fp, PTs (Blk X scope s H C cl fp) ifs t) ∧ ∀ x b, ft x = some b → ∀ B M σ H (Q : Bool → Hp → Prop), In B M H → OkS (up (wipeS Γ (own.map (·.2))) x) σ B M → (∀ B' H', Gr B H B' H' → Q b H') → t σ H Q)
    (he : ∀ s H C cl fp, ∀ x, EVm (Blk X scope s H C cl fp) elt (up (wipeS Γ (own.map (·.2))) x) (fe x) τe) :
    ∃ wi g tt, PI X tg iter wi ∧ (∀ s H C cl fp, PG (Blk X scope s H C cl fp) tg g) ∧ (∀ s H C cl fp, PTs (Blk X scope s H C cl fp) ifs tt) ∧
      ∀ ys, (m.bind fun xs => compO ft fe xs) = some ys → ∀ B M σ H (Q : VK), In B M H → OkS Γ σ B M →
        (∀ v B' M' H', Gr B H B' H' → Same M' H' → (∀ a o, M' a = some o → H a = none ∧ B' a = none) → (mList X.K τe ys).p v B' M' → Q v H') → tLc wi g tt (eBlk X scope elt) (own.map (·.2)) σ H Q := by
  obtain ⟨wi, pi, qi⟩ := hi
  obtain ⟨g, pg, qg⟩ := hg
  obtain ⟨tt, pt, qt⟩ := ht
  refine ⟨wi, g, tt, pi, pg, pt, fun ys hy B M σ H Q inn ok q => ?_⟩
  obtain ⟨xs, h1, h2⟩ := bind_of hy
  refine qi xs h1 B M σ H _ inn ok fun Jt B1 H1 g1 it hsz => ?_
  intro D hD
  have hB1D : B1 D = none := fresh_of g1.bh hD
  have hHD : H D = none := fresh_of g1.hh hD
  obtain ⟨M0, sm0, okw⟩ := (ok.mono g1.bb).wipe (own.map (·.2))
  have inn1 := inn.gr g1
  refine ⟨fun i m H' => m = xs.length - i ∧ i ≤ xs.length ∧ ∃ B' acc vs zs, Gr B1 H1 B' H' ∧ H' D = some (.lst vs) ∧ B' D = none ∧ Paired (fun x u => τe.rel x u B') acc vs ∧ acc.length ≤ i ∧ compO ft fe (xs.drop i) = some zs ∧ ys = acc ++ zs,
    ⟨_, rfl, Nat.zero_le _, B1, [], [], ys, Gr.heap g1.bh (same_upd hD), upd_same, hB1D, .nil, Nat.le_refl _, h2, rfl⟩, ?_⟩
  intro i mm H' ⟨emm, hle, B', acc, vs, zs, gg, hDv, hBD, pr, hlen, hf, hys⟩
  subst emm
  have inM : In B' M0 H' := ⟨gg.bh, sm0.trans (inn1.m.trans gg.hh), fun a o h => gg.new a o (inn1.m a o (sm0 a o h)) (inn1.dj a o (sm0 a o h))⟩
  cases hx : xs[i]? with
  | none =>
    have hl : xs.length ≤ i := List.getElem?_eq_none_iff.mp hx
    refine .inl ⟨(it i B' H' gg.bb gg.bh).2 hx, ?_⟩
    rw [List.drop_eq_nil_of_le hl] at hf
    cases hf
    rw [List.append_nil] at hys
    subst hys
    refine q (.ref D) B' (sing D (.lst vs)) H' (g1.trans gg) (fun a o h => ?_) (fun a o h => ?_) ⟨D, vs, rfl, rfl, pr⟩
    · obtain ⟨e1, e2⟩ := sing_some h
      subst e1 e2
      exact hDv
    · obtain ⟨e1, e2⟩ := sing_some h
      subst e1
      exact ⟨hHD, hBD⟩
  | some x =>
    have hlt : i < xs.length := (List.getElem?_eq_some_iff.mp hx).1
    obtain ⟨hgo, hyl⟩ := (it i B' H' gg.bb gg.bh).1 x hx
    obtain ⟨b, ht1, hyes, hno⟩ := compO_drop hx hf
    refine .inr ⟨hgo, fun H2 => ∃ B2 acc2 vs2 zs2, Gr B1 H1 B2 H2 ∧ H2 D = some (.lst vs2) ∧ B2 D = none ∧ Paired (fun x u => τe.rel x u B2) acc2 vs2 ∧ acc2.length ≤ i + 1 ∧ compO ft fe (xs.drop (i + 1)) = some zs2 ∧ ys = acc2 ++ zs2,
      fun H2 ⟨B2, acc2, vs2, zs2, k1, k2, k3, k4, k5, k6, k7⟩ => ⟨xs.length - (i + 1), by omega, rfl, hlt, B2, acc2, vs2, zs2, k1, k2, k3, k4, k5, k6, k7⟩, fun v H2 hv => ?_⟩
    obtain ⟨B2, g2, r2⟩ := hyl v H2 hv
    have in2 : In B2 M0 H2 := inM.gr g2
    refine qg x v B2 M0 _ H2 _ _ in2 (okw.mono (gg.bb.trans g2.bb)) r2 fun σ3 M3 sm3 ok3 hw => ⟨?_, ?_⟩
    · rw [hw _ his, wipe_wipe]
    · have in3 : In B2 M3 H2 := ⟨in2.b, sm3.trans in2.m, in2.dj.sub sm3⟩
      refine qt x b ht1 B2 M3 σ3 H2 _ in3 ok3 fun B4 H4 g4 => ?_
      have g24 := g2.trans g4
      have hD4 : H4 D = some (.lst vs) := g24.hh _ _ hDv
      have hB4 : B4 D = none := g24.new _ _ hDv hBD
      cases b with
      | false =>
        refine ⟨B4, acc, vs, zs, gg.trans g24, hD4, hB4, Paired.mapP pr fun x u r => τe.mono _ _ _ _ g24.bb r, by omega, hno rfl, hys⟩
      | true =>
        obtain ⟨y, zs2, k1, k2, k3⟩ := hyes rfl
        show eBlk X scope elt σ3 H4 _
        intro s0 H0 C0 cl0 fp0
        refine he s0 H0 C0 cl0 fp0 x y k1 B4 M3 σ3 H4 _ (in3.gr g4) (ok3.mono g4.bb) fun w B5 H5 g5 r5 => ?_
        have g25 := g24.trans g5
        have hD5 : H5 D = some (.lst vs) := g5.hh _ _ hD4
        have hB5 : B5 D = none := g5.new _ _ hD4 hB4
        have hvl : vs.length = acc.length := (paired_len pr).symm
        have hzl : acc.length < sizeLine := by omega
        refine ⟨vs, hD5, by omega, B5, acc ++ [y], vs ++ [w], zs2, ?_, upd_same, hB5, ?_, by simp; omega, k2, by rw [hys, k3]; simp⟩
        · have gx := gg.trans g25
          refine ⟨gx.bb, fun a o h => ?_, fun a o h => ?_, gx.new⟩
          · rw [upd_ne (ne_of_none h hD)]; exact gx.hh a o h
          · rw [upd_ne (ne_of_none h hB5)]; exact gx.bh a o h
        · exact Paired.snoc (Paired.mapP pr fun x u r => τe.mono _ _ _ _ g25.bb r) r5
theorem ptc_yes {scope : Scope} {Γ : α → List Slot} : ∃ t : TT, (∀ s H C cl fp, PTs (Blk X scope s H C cl fp) [] t) ∧ ∀ (x : α) b, (some true : Option Bool) = some b → ∀ B M σ H (Q : Bool → Hp → Prop), In B M H → OkS (Γ x) σ B M → (∀ B' H', Gr B H B' H' → Q b H') → t σ H Q :=
  ⟨tYes, fun _ _ _ _ _ => pts_nil, fun x b hb B M σ H Q i ok q => by cases hb; exact q B H (Gr.refl i.b)⟩
theorem ptc_if {scope : Scope} {Γ : α → List Slot} {ft : α → Option Bool} (h : ∀ s H C cl fp, ∀ x, ETm (Blk X scope s H C cl fp) c (Γ x) (ft x)) : ∃ t : TT, (∀ s H C cl fp, PTs (Blk X scope s H C cl fp) [c] t) ∧ ∀ (x : α) b, ft x = some b → ∀ B M σ H (Q : Bool → Hp → Prop), In B M H → OkS (Γ x) σ B M → (∀ B' H', Gr B H B' H' → Q b H') → t σ H Q :=
  ⟨tBlk X scope c, fun s H C cl fp => pts_one ⟨fun pins s' σ H' Q I q => q s H C cl fp pins s' I⟩, fun x b hb B M σ H Q i ok q s H0 C cl fp => h s H0 C cl fp x b hb B M σ H Q i ok q⟩
/-- [elt for tg in iter if ..] -/
theorem eo_lc {scope : Scope} {own : List (Str × Nat)} {m : Option (List α)} {τ : Ty α} {up : List Slot → α → List Slot} {is : List Nat} {ft : α → Option Bool} {fe : α → Option β} {τe : Ty β} (hc : X.calm = true) (hN : X.N.Nodup) (ok : BlkOk X.N X.env.scope scope own) (hi : PIm X tg iter Γ m τ) (hg : PGc X scope tg τ up is) (his : ∀ i ∈ is, i ∈ own.map (·.2))
    (ht : ∃ t : TT, (∀ s H C cl fp, PTs (Blk X scope s H C cl fp) ifs t) ∧ ∀ x b, ft x = some b → ∀ B M σ H (Q : Bool → Hp → Prop), In B M H → OkS (up (wipeS Γ (own.map (·.2))) x) σ B M → (∀ B' H', Gr B H B' H' → Q b H') → t σ H Q)
    (he : ∀ s H C cl fp, ∀ x, EVm (Blk X scope s H C cl fp) elt (up (wipeS Γ (own.map (·.2))) x) (fe x) τe) (hs : ∀ x, foldedSetIterable iter X.env x = pure x := by intro _; rfl) :
    EOm X (.ListComp elt [⟨tg, iter, ifs, 0⟩] scope pos) Γ (m.bind fun xs => compO ft fe xs) (mList X.K τe) := fun ys hy B M σ H Q inn okk q => by
  obtain ⟨wi, g, tt, pi, pg, pt, k⟩ := lc_run hi hg his ht he
  exact wE_of (pe_lc hc hN pi ok pg pt pe_blk hs) (k ys hy B M σ H Q inn okk q)
/-- y = [elt for tg in iter if ..] -/
theorem bl_setLc {i : Nat} {y : Str} {scope : Scope} {own : List (Str × Nat)} {m : Option (List α)} {τ : Ty α} {up : List Slot → α → List Slot} {is : List Nat} {ft : α → Option Bool} {fe : α → Option β} {τe : Ty β} {k : List β → Option O} (hc : X.calm = true) (hN : X.N.Nodup) (hy : X.N[i]? = some y) (hyl : X.env.scope.names.lookup y = some .local) (hl : i < Γ.length)
    (hsw : swapsWith (.ListComp elt [⟨tg, iter, ifs, 0⟩] scope pos) (some (.Name y py)) spos.line X.env = pure true) (ok : BlkOk X.N X.env.scope scope own) (hi : PIm X tg iter Γ m τ) (hg : PGc X scope tg τ up is) (his : ∀ i ∈ is, i ∈ own.map (·.2))
    (ht : ∃ t : TT, (∀ s H C cl fp, PTs (Blk X scope s H C cl fp) ifs t) ∧ ∀ x b, ft x = some b → ∀ B M σ H (Q : Bool → Hp → Prop), In B M H → OkS (up (wipeS Γ (own.map (·.2))) x) σ B M → (∀ B' H', Gr B H B' H' → Q b H') → t σ H Q)
    (he : ∀ s H C cl fp, ∀ x, EVm (Blk X scope s H C cl fp) elt (up (wipeS Γ (own.map (·.2))) x) (fe x) τe) (hr : ∀ ys, BL X rest (G.st Γ i (.own (mList X.K τe ys))) (k ys) J) (hs : ∀ x, foldedSetIterable iter X.env x = pure x := by intro _; rfl) :
    BL X (.Assign [.Name y py] (.ListComp elt [⟨tg, iter, ifs, 0⟩] scope pos) spos :: rest) Γ ((m.bind fun xs => compO ft fe xs).bind k) J := fun o ho B M σ H D inn okk kk => by
  obtain ⟨ys, h1, h2⟩ := bind_of ho
  obtain ⟨wi, g, tt, pi, pg, pt, run⟩ := lc_run hi hg his ht he
  refine wSs_cons (wS_of (ps_setLc hc hN hy hyl hsw pi ok pg pt pe_blk hs) (run ys h1 B M σ H _ inn okk fun v B1 N1 H1 g1 n1 n2 r1 => ?_))
  have s1 := Stp.gr inn g1
  have dN : Dj N1 M := fun a o h => by
    cases z : M a with
    | none => rfl
    | some u => have := (n2 a o h).1; rw [inn.m a u z] at this; cases this
  obtain ⟨M', s, ok'⟩ := (okk.mono g1.bb).setOwn (i := i) r1 dN hl
  have i2 : In B1 (un N1 M') H1 := ⟨g1.bh, same_un n1 (s.trans (inn.m.trans g1.hh)), Dj.un (fun a o h => (n2 a o h).2) (s1.i.dj.sub s)⟩
  refine hr ys o h2 B1 (un N1 M') _ H1 D i2 ok' (kk.step ⟨g1.bb, i2, fun a o h _ => g1.hh a o h, fun a o h nb _ => g1.new a o h nb, fun a o h nm => un_none.mpr ⟨?_, ?_⟩⟩)
  · cases z : N1 a with
    | none => rfl
    | some u => rw [(n2 a u z).1] at h; cases h
  · cases z : M' a with
    | none => rfl
    | some u => rw [s a u z] at nm; cases nm
/-- an owned thing changes no more -/
theorem bl_frz {i : Nat} {ψ : MO} {sts : List Stmt} {m : Option O} (hΓ : sl Γ i = .own ψ) (hr : BL X sts (G.st Γ i (.val ψ.fr)) m J) : BL X sts Γ m J := fun o ho B M σ H D inn ok kk => by
  obtain ⟨v, M1, M2, e, em, d, p, put⟩ := ok.take hΓ
  subst em
  have dB : Dj M1 B := inn.dj.un_l
  have d2 : Dj M2 B := inn.dj.un_r d
  have i2 : In (un M1 B) M2 H := ⟨same_un ((same_un_l _ _).trans inn.m) inn.b, (same_un_r d).trans inn.m, fun a o q => un_none.mpr ⟨d.symm a o q, d2 a o q⟩⟩
  have ok2 : OkS (G.st Γ i (.val ψ.fr)) σ (un M1 B) M2 := put ψ.fr (un M1 B) (same_un_r dB) (ψ.frz v B M1 dB p)
  refine hr o ho (un M1 B) M2 σ H D i2 ok2 (kk.step ⟨same_un_r dB, i2, fun a o h _ => h, fun a o h nb nm => un_none.mpr ⟨(un_none.mp nm).1, nb⟩, fun a o h nm => (un_none.mp nm).2⟩)
/-- a new list, read off owned things -/
theorem eo_fz {m : Option (List α)} {τ : Ty α} [Safe τ] (h : EOm X e (fz Γ) m (mList X.K τ)) : EOm X e Γ m (mList X.K τ) := fun x hx B M σ H Q i ok q => by
  refine h x hx (un M B) emp σ H Q ⟨same_un i.m i.b, (fun _ _ z => nomatch z), Dj.emp _⟩ (ok.fz i.dj) fun v B' M' H' g s n r => ?_
  obtain ⟨a, vs, e1, e2, pr⟩ := r
  have kd := ok.kd
  refine q v (fun a => if (M a).isSome then none else B' a) M' H' ⟨fun a o h => ?_, g.hh, fun a o h => ?_, fun a o h nb => ?_⟩ s (fun a o h => ⟨(n a o h).1, ?_⟩) ⟨a, vs, e1, e2, Paired.mapP pr fun x u r => Safe.sf x u B' _ (fun a xs h => ?_) (fun a o w h => ?_) r⟩
  · have : M a = none := i.dj.symm a o h
    show (if (M a).isSome = true then none else B' a) = some o
    rw [this]
    exact g.bb a o (same_un_r i.dj a o h)
  · have h' : (if (M a).isSome = true then none else B' a) = some o := h
    split at h'
    · cases h'
    · exact g.bh a o h'
  · show (if (M a).isSome = true then none else B' a) = none
    cases z : M a with
    | some u => rfl
    | none => exact g.new a o h (un_none.mpr ⟨z, nb⟩)
  · show (if (M a).isSome = true then none else B' a) = none
    split
    · rfl
    · exact (n a o h).2
  · show (if (M a).isSome = true then none else B' a) = some (.tup xs)
    cases z : M a with
    | some u =>
      have := g.bb a u (same_un_l M B a u z)
      rw [h] at this
      cases this
      exact absurd rfl ((kd a _ z).1 xs)
    | none => exact h
  · show (if (M a).isSome = true then none else B' a) = some (.frz o w)
    cases z : M a with
    | some u =>
      have := g.bb a u (same_un_l M B a u z)
      rw [h] at this
      cases this
      exact absurd rfl ((kd a _ z).2 o w)
    | none => exact h
end
end G
/-! G7: defs as they stand behind the top, with or without defaults; the end. -/
namespace G
open PySem PySem.Spec PyProof.Rows L2
section
variable {P : Program} {w : World} {K : PySem.W.Frag} {mg : Str → Option Value} {base : Heap} {α β γ δ : Type} {x qual : Str} {params : Arguments} {body : List Stmt} {scope : Scope} {dvs : List V} {kws : List (Str × V)} {f : Addr} {fd : FuncData} {N ps : List Str} {k : Nat}
theorem okF {ρ : TyT α} {fm : α → Option β} {τ : Ty β} (F : FunD K x qual params body scope dvs kws f fd) (S : FnScope N ps scope) (hl : ρ.len = ps.length)
    (hb : ∀ (cdv : Value) (A : Around) (outer : List Env) (s : Shared) (H : Hp) (E : XK), Room k (A.deeper (PyProof.Rows.envOfC qual scope s.heap.objs.size f cdv)) → ∀ x, BL (cxOf CX0 P w K mg base N qual scope f cdv A outer s H E).nox body (ρ.slots x ++ List.replicate (N.length - ps.length) .any) (fm x) (fun y => .fn fun v B _ => τ.rel y v B)) :
    FnOk P w K mg base CX0 (k + 1) f fd ps (spF ρ fm τ) := by
  refine F.ok S (fun vs H Q E h => ?_) (fun cdv A outer s H vs Q E hr h => ?_)
  · obtain ⟨B, x, y, _, r, _⟩ := h
    rw [ρ.hlen _ _ _ r, hl]
  · obtain ⟨B, x, y, sb, r, hy, q⟩ := h
    have hlv : vs.length = ps.length := by rw [ρ.hlen _ _ _ r, hl]
    refine ⟨_, PSs.nox pssW, hb cdv A outer s H E hr x y hy B emp _ H _ ⟨sb, fun _ _ z => (nomatch z), Dj.emp _⟩ ?_ ⟨fun v B' M' H' st p => ?_, fun σ B' M' H' st p => ?_⟩⟩
    · have := okS_start (N.length - ps.length) (ρ.hsl x vs B r)
      unfold L2.start
      rw [hlv]
      exact this
    · exact q v B' H' ⟨st.bb, fun a o h => st.fr a o h rfl, st.i.b, fun a o h n => st.newB a o h n rfl⟩ p
    · exact q .non B' H' ⟨st.bb, fun a o h => st.fr a o h rfl, st.i.b, fun a o h n => st.newB a o h n rfl⟩ p
/-- its result is new and owned -/
theorem okO {ρ : TyT α} {fm : α → Option β} {μ : β → MO} (F : FunD K x qual params body scope dvs kws f fd) (S : FnScope N ps scope) (hl : ρ.len = ps.length)
    (hb : ∀ (cdv : Value) (A : Around) (outer : List Env) (s : Shared) (H : Hp) (E : XK), Room k (A.deeper (PyProof.Rows.envOfC qual scope s.heap.objs.size f cdv)) → ∀ x, BL (cxOf CX0 P w K mg base N qual scope f cdv A outer s H E).nox body (ρ.slots x ++ List.replicate (N.length - ps.length) .any) (fm x) (fun y => .fn fun v B M => (μ y).p v B M)) :
    FnOk P w K mg base CX0 (k + 1) f fd ps (spO ρ fm μ) := by
  refine F.ok S (fun vs H Q E h => ?_) (fun cdv A outer s H vs Q E hr h => ?_)
  · obtain ⟨B, x, y, _, r, _⟩ := h
    rw [ρ.hlen _ _ _ r, hl]
  · obtain ⟨B, x, y, sb, r, hy, q⟩ := h
    have hlv : vs.length = ps.length := by rw [ρ.hlen _ _ _ r, hl]
    have nw : ∀ (B' M' H' : Hp), Stp B emp H B' M' H' → ∀ a o, M' a = some o → H a = none ∧ B' a = none := fun B' M' H' st a o h => by
      refine ⟨?_, st.i.dj a o h⟩
      cases z : H a with
      | none => rfl
      | some u => rw [st.newM a u z rfl] at h; cases h
    refine ⟨_, PSs.nox pssW, hb cdv A outer s H E hr x y hy B emp _ H _ ⟨sb, fun _ _ z => (nomatch z), Dj.emp _⟩ ?_ ⟨fun v B' M' H' st p => ?_, fun σ B' M' H' st p => ?_⟩⟩
    · have := okS_start (N.length - ps.length) (ρ.hsl x vs B r)
      unfold L2.start
      rw [hlv]
      exact this
    · exact q v B' M' H' ⟨st.bb, fun a o h => st.fr a o h rfl, st.i.b, fun a o h n => st.newB a o h n rfl⟩ st.i.m (nw _ _ _ st) p
    · exact q .non B' M' H' ⟨st.bb, fun a o h => st.fr a o h rfl, st.i.b, fun a o h n => st.newB a o h n rfl⟩ st.i.m (nw _ _ _ st) p
/-- its first argument is owned -/
theorem okM {χ : γ → MO} {ρ : TyT α} {fm : γ → α → Option (γ × β)} {τ : Ty β} {p0 : Str} (F : FunD K x qual params body scope dvs kws f fd) (S : FnScope N (p0 :: ps) scope) (hl : ρ.len = ps.length)
    (hb : ∀ (cdv : Value) (A : Around) (outer : List Env) (s : Shared) (H : Hp) (E : XK), Room k (A.deeper (PyProof.Rows.envOfC qual scope s.heap.objs.size f cdv)) → ∀ g x u, BL (cxOf CX0 P w K mg base N qual scope f cdv A outer s H E).nox body
      (.own ((χ g).at u) :: (ρ.slots x ++ List.replicate (N.length - (ps.length + 1)) .any)) (fm g x) (fun r => .fn fun v B M => (χ r.1).p u B M ∧ τ.rel r.2 v B)) :
    FnOk P w K mg base CX0 (k + 1) f fd (p0 :: ps) (spM χ ρ fm τ) := by
  refine F.ok S (fun vs H Q E h => ?_) (fun cdv A outer s H vs Q E hr h => ?_)
  · obtain ⟨B, M, g, x, r, u, ws, e, _, _, rr, _⟩ := h
    rw [e, List.length_cons, List.length_cons, ρ.hlen _ _ _ rr, hl]
  · obtain ⟨B, M, g, x, r, u, ws, rfl, i, p, rr, hy, q⟩ := h
    have hlv : ws.length = ps.length := by rw [ρ.hlen _ _ _ rr, hl]
    refine ⟨_, PSs.nox pssW, hb cdv A outer s H E hr g x u r hy B M _ H _ i ?_ ⟨fun v B' M' H' st p => ?_, fun σ B' M' H' st p => ?_⟩⟩
    · have := okS_start (N.length - (ps.length + 1)) (ρ.hsl x ws B rr)
      unfold L2.start
      rw [List.length_cons, hlv]
      exact ⟨u, M, emp, rfl, (un_emp _).symm, (Dj.emp _).symm, ⟨rfl, p⟩, this⟩
    · exact q v B' M' H' st p.1 p.2
    · exact q .non B' M' H' st p.1 p.2
/-- an __init__ -/
theorem okI {C : Addr} {ρ : TyT α} {im : α → Option β} {μ : β → MO} {p0 : Str} (F : FunD K x qual params body scope dvs kws f fd) (S : FnScope N (p0 :: ps) scope) (hl : ρ.len = ps.length)
    (hb : ∀ (cdv : Value) (A : Around) (outer : List Env) (s : Shared) (H : Hp) (E : XK), Room k (A.deeper (PyProof.Rows.envOfC qual scope s.heap.objs.size f cdv)) → ∀ x u, BL (cxOf CX0 P w K mg base N qual scope f cdv A outer s H E).nox body
      (.own ((mObj C [] []).at u) :: (ρ.slots x ++ List.replicate (N.length - (ps.length + 1)) .any)) (im x) (fun y => .fn fun v B M => v = .non ∧ (μ y).p u B M)) :
    FnOk P w K mg base CX0 (k + 1) f fd (p0 :: ps) (spI C ρ im μ) := by
  refine F.ok S (fun vs H Q E h => ?_) (fun cdv A outer s H vs Q E hr h => ?_)
  · obtain ⟨B, M, x, y, u, ws, e, _, _, r, _⟩ := h
    rw [e, List.length_cons, List.length_cons, ρ.hlen _ _ _ r, hl]
  · obtain ⟨B, M, x, y, u, ws, rfl, i, p, r, hy, q⟩ := h
    have hlv : ws.length = ps.length := by rw [ρ.hlen _ _ _ r, hl]
    refine ⟨_, PSs.nox pssW, hb cdv A outer s H E hr x u y hy B M _ H _ i ?_ ⟨fun v B' M' H' st p => ?_, fun σ B' M' H' st p => ?_⟩⟩
    · have := okS_start (N.length - (ps.length + 1)) (ρ.hsl x ws B r)
      unfold L2.start
      rw [List.length_cons, hlv]
      exact ⟨u, M, emp, rfl, (un_emp _).symm, (Dj.emp _).symm, ⟨rfl, p⟩, this⟩
    · obtain ⟨e, p⟩ := p
      subst e
      exact q B' M' H' st p
    · exact q B' M' H' st p.2
end
theorem retP {Γ : List Slot} {α : Type} {τ : Ty α} : ∀ (x : α) (v : V) (σ : L2.St) (B M : Hp), OkS Γ σ B M → τ.rel x v B → ∃ M', Same M' M ∧ (fun r v B (_ : Hp) => τ.rel r v B) x v B M' := fun _ _ _ _ M _ r => ⟨M, Same.refl _, r⟩
theorem Room.u65 {k : Nat} {A : Around} (r : Room k A) : A.units + 65 < cLine := by have := r.un; omega
/-- the law: the script in, True out -/
theorem law_end {K : PySem.W.Frag} {fm : List Int → Option Bool} (h : ∀ ns : List Int, ns.length ≤ 63 → fm ns = some true) (H : Hp) (a : Addr) (ns : List Int) (hl : ns.length ≤ 63) (hS : SqL K H a (ns.map V.int)) :
    spF (tOne (tScr K)) fm tBool [.ref a] H (fun v _ => v = .bl true) fun _ _ _ => False :=
  ⟨H, ns, true, Same.refl _, ⟨_, rfl, a, rfl, hS⟩, h ns hl, fun v B' H' _ r => r⟩
/-- a module's whole number, text -/
theorem ev_glI {X : Cx} {Γ : List Slot} {x : Str} {i : Int} {pos : Pos} (hm : ∃ t, X.mg x = some (.int i t)) (hg : Gl X x) (hd : (x == ("__debug__" : Str)) = false := by decide) : EVm X (.Name x pos) Γ (some i) tInt := fun y hy B M σ H Q inn ok q => by
  obtain ⟨t, hm⟩ := hm
  exact wE_of (pe_glob (v := .int i) hg hm ⟨t, rfl⟩ hd) (q _ B H (Gr.refl inn.b) (by cases hy; rfl))
theorem ev_glS {X : Cx} {Γ : List Slot} {x s : Str} {pos : Pos} (hm : ∃ t, X.mg x = some (.str s t)) (hg : Gl X x) (hd : (x == ("__debug__" : Str)) = false := by decide) : EVm X (.Name x pos) Γ (some s) tStr := fun y hy B M σ H Q inn ok q => by
  obtain ⟨t, hm⟩ := hm
  exact wE_of (pe_glob (v := .str s) hg hm ⟨t, rfl⟩ hd) (q _ B H (Gr.refl inn.b) (by cases hy; rfl))
end G
/-! G8: owned places, and what changes them. -/
namespace G
open PySem PySem.Spec PyProof.Rows L2

/-! ### a list of owned things -/
def owns {α : Type} (χ : α → MO) (xs : List α) : List Slot := xs.map fun x => .own (χ x)
theorem sl_owns {α : Type} {χ : α → MO} : ∀ {xs : List α} {j : Nat} {x : α}, xs[j]? = some x → sl (owns χ xs) j = .own (χ x)
  | [], _, _, h => by simp at h
  | y :: _, 0, x, h => by simp at h; subst h; rfl
  | _ :: xs, j + 1, x, h => by
    show sl (owns χ xs) j = _
    exact sl_owns (by simpa using h)
theorem st_owns {α : Type} {χ : α → MO} {c : α} : ∀ {xs : List α} {j : Nat}, st (owns χ xs) j (.own (χ c)) = owns χ (xs.set j c)
  | [], _ => rfl
  | _ :: _, 0 => rfl
  | _ :: xs, j + 1 => by
    show _ :: st (owns χ xs) j _ = _ :: owns χ (xs.set j c)
    rw [st_owns]
theorem fz_owns {α : Type} {χ : α → MO} {τ : Ty α} (hf : ∀ x, (χ x).fr = τ.P x) {B : Hp} : ∀ {xs : List α} {vs : List V}, OkS (fz (owns χ xs)) (vs.map some) B emp → Paired (fun x u => τ.rel x u B) xs vs
  | [], [], _ => .nil
  | [], _ :: _, h => h.elim
  | _ :: _, [], h => h.elim
  | x :: xs, v :: vs, h => by
    obtain ⟨⟨u, e, r⟩, k⟩ := h
    cases e
    refine .cons ?_ (fz_owns hf k)
    have : ((χ x).fr).p v B := r
    rw [hf x] at this
    exact this
theorem owns_len {α : Type} {χ : α → MO} (xs : List α) : (owns χ xs).length = xs.length := List.length_map ..
def mListO (K : PySem.W.Frag) {α : Type} (χ : α → MO) (τ : Ty α) (hf : ∀ x, (χ x).fr = τ.P x) (xs : List α) : MO where
  p := fun v B M => ∃ a vs M1, v = .ref a ∧ M = un (sing a (.lst vs)) M1 ∧ Dj (sing a (.lst vs)) M1 ∧ OkS (owns χ xs) (vs.map some) B M1
  mono := fun v B B' M h ⟨a, vs, M1, e, m, d, k⟩ => ⟨a, vs, M1, e, m, d, k.mono h⟩
  fr := (tList K τ).P xs
  frz := fun v B M dj ⟨a, vs, M1, e, m, d, k⟩ => by
    subst m
    have d1 : Dj M1 B := dj.un_r d
    have d0 : Dj (sing a (.lst vs)) (un M1 B) := (Dj.un d.symm (dj.un_l).symm).symm
    refine ⟨a, vs, e, un_l (un_l sing_same), fz_owns hf ((k.fz d1).mono ?_)⟩
    rw [un_assoc]
    exact same_un_r d0
  kd := fun v B M ⟨a, vs, M1, e, m, d, k⟩ b o h => by
    rw [m] at h
    rcases un_some h with h | ⟨_, h⟩
    · obtain ⟨_, z⟩ := sing_some h
      subst z
      exact ⟨fun _ q => (nomatch q), fun _ _ q => (nomatch q)⟩
    · exact k.kd b o h

section
variable {X : Cx} {Γ Γ' : List Slot} {e a b c tg o : Expr} {es : List Expr} {pos p pos' apos cpos : Pos} {rest : List Stmt} {st' : Stmt} {O : Type} {J : O → Oc} {α β γ δ S R ρ : Type}
/-- p is an owned place: what stands there (get), how it is put back -/
def PTm (X : Cx) (p : Expr) (Γ : List Slot) {β γ : Type} (m : Option β) (get : β → γ) (χ : γ → MO) (put : β → γ → List Slot) : Prop := ∀ b, m = some b → ∀ B M σ H (Q : VK), In B M H → OkS Γ σ B M →
  (∀ v B' H' M1 M2, Gr B H B' H' → M = un M1 M2 → Dj M1 M2 → (χ (get b)).p v B' M1 → (∀ c B'' M1', Same B' B'' → Dj M1' M2 → (χ c).p v B'' M1' → OkS (put b c) σ B'' (un M1' M2)) → Q v H') → wE X p σ H Q
theorem pt_var {i : Nat} {x : Str} {d : γ} {χ : γ → MO} (hΓ : sl Γ i = .own (χ d)) (hN : X.N[i]? = some x) (hv : Vis X.env.scope x) (hd : (x == ("__debug__" : Str)) = false := by decide) (hcd : (x == ("__classdict__" : Str)) = false := by decide) :
    PTm X (.Name x pos) Γ (some d) (fun z => z) χ (fun _ c => G.st Γ i (.own (χ c))) := fun y hy B M σ H Q inn ok q => by
  obtain rfl : d = y := Option.some.inj hy
  obtain ⟨v, M1, M2, e, m, dj, r, put⟩ := ok.focus hΓ
  exact wE_of (pe_var hN hv hd hcd) ⟨v, e, q v B H M1 M2 (Gr.refl inn.b) m dj r fun c B'' M1' s d' r' => put (χ c) B'' M1' s d' r'⟩
theorem pt_at {i : Nat} {x : Str} {d : γ} {χ : γ → MO} {u : V} (hΓ : sl Γ i = .own ((χ d).at u)) (hN : X.N[i]? = some x) (hv : Vis X.env.scope x) (hd : (x == ("__debug__" : Str)) = false := by decide) (hcd : (x == ("__classdict__" : Str)) = false := by decide) :
    PTm X (.Name x pos) Γ (some d) (fun z => z) χ (fun _ c => G.st Γ i (.own ((χ c).at u))) := fun y hy B M σ H Q inn ok q => by
  obtain rfl : d = y := Option.some.inj hy
  obtain ⟨v, M1, M2, e, m, dj, r, put⟩ := ok.focus hΓ
  exact wE_of (pe_var hN hv hd hcd) ⟨v, e, q v B H M1 M2 (Gr.refl inn.b) m dj r.2 fun c B'' M1' s d' r' => put ((χ c).at u) B'' M1' s d' ⟨r.1, r'⟩⟩
/-- what an object's field has, out of its slots -/
theorem map_some_at {vs : List V} {j : Nat} {w : V} (h : (vs.map some)[j]? = some (some w)) : vs[j]? = some w := by
  rw [List.getElem?_map] at h
  cases q : vs[j]? with
  | none => rw [q] at h; cases h
  | some u => rw [q] at h; cases h; rfl
/-- p.f, an owned field of an owned object -/
theorem pt_fld {C : Addr} {names : List Str} {f : Str} {j : Nat} {m : Option β} {get : β → δ} {sf : δ → List Slot} {put : β → δ → List Slot} {g : δ → γ} {χ : γ → MO} (up : δ → γ → δ) (hp : PTm X a Γ m get (fun d => mObj C names (sf d)) put) (c : Cls X.K C) (n : NoAttr X.K C f)
    (hs : ∀ d, sl (sf d) j = .own (χ (g d))) (hu : ∀ d x, G.st (sf d) j (.own (χ x)) = sf (up d x)) (nd : names.Nodup := by decide +kernel) (hj : names[j]? = some f := by rfl) (hb : attributeBase a f X.env (eval a X.env) = eval a X.env := by rfl) :
    PTm X (.Attribute a f pos) Γ m (fun b => g (get b)) χ (fun b x => put b (up (get b) x)) := fun y hy B M σ H Q inn ok q => by
  refine wE_of (pe_fld peW hb) (hp y hy B M σ H _ inn ok fun v B1 H1 M1 M2 g1 em dj ⟨u, dx, vs, N, ev, eN, dN, hl, k⟩ pb => ?_)
  obtain ⟨w, N1, N2, ew, en, dn, r, pk⟩ := k.focus (hs _)
  have ew' := map_some_at ew
  subst eN en
  have hu1 : H1 u = some (.ins C dx (names.zip vs)) := g1.hh _ _ (inn.m _ _ (by rw [em]; exact un_l (un_l sing_same)))
  refine ⟨u, C, dx, _, w, ev, hu1, c, n, zip_look nd hj ew', ?_⟩
  have dN1 : Dj (sing u (.ins C dx (names.zip vs))) N1 := (dN.symm.un_l).symm
  have dN2 : Dj (sing u (.ins C dx (names.zip vs))) N2 := (dN.symm.un_r dn).symm
  have dj1 : Dj N1 M2 := (dj.un_r dN).un_l
  have dj2 : Dj N2 M2 := (dj.un_r dN).un_r dn
  have dj0 : Dj (sing u (.ins C dx (names.zip vs))) M2 := dj.un_l
  refine q w B1 H1 N1 (un (sing u (.ins C dx (names.zip vs))) (un N2 M2)) g1 ?_ ?_ r fun x B2 N1' s2 d2 r2 => ?_
  · rw [em, ← un_assoc, ← un_assoc, ← un_assoc, un_comm dN1]
  · exact (Dj.un dN1 (Dj.un dn.symm dj1.symm)).symm
  · have e1 : Dj N1' (sing u (.ins C dx (names.zip vs))) := d2.symm.un_l.symm
    have e23 : Dj N1' (un N2 M2) := (d2.symm.un_r ((Dj.un dN2.symm dj0.symm).symm)).symm
    have e2 : Dj N1' N2 := e23.symm.un_l.symm
    have e3 : Dj N1' M2 := (e23.symm.un_r dj2).symm
    have res := pb (up (get y) x) B2 (un (sing u (.ins C dx (names.zip vs))) (un N1' N2)) s2 (Dj.un dj0 (Dj.un e3 dj2)) ⟨u, dx, vs, un N1' N2, ev, rfl, (Dj.un e1 dN2.symm).symm, hl, by
      rw [← hu]; exact pk (χ x) B2 N1' s2 e2 r2⟩
    have : un N1' (un (sing u (.ins C dx (names.zip vs))) (un N2 M2)) = un (un (sing u (.ins C dx (names.zip vs))) (un N1' N2)) M2 := by
      rw [← un_assoc, un_comm e1, un_assoc, un_assoc, un_assoc]
    rw [this]
    exact res
def atJ (xs : List α) (k : Int) : Option (Nat × α) := (ixN xs.length k).bind fun j => (xs[j]?).bind fun x => some (j, x)
/-- p[k], an owned item of an owned list -/
theorem pt_idx {m : Option β} {get : β → List γ} {χ : γ → MO} {τ : Ty γ} {hf : ∀ x, (χ x).fr = τ.P x} {put : β → List γ → List Slot} {mk : Option Int} (hp : PTm X a Γ m get (mListO X.K χ τ hf) put) (hk : EVm X b Γ mk tInt) (hs : PlainIx b := by intro _ _; rfl) :
    PTm X (.Subscript a b pos) Γ (m.bind fun y => mk.bind fun k => (atJ (get y) k).bind fun jx => some (y, jx)) (fun r => r.2.2) χ (fun r x => put r.1 ((get r.1).set r.2.1 x)) := fun r hr B M σ H Q inn ok q => by
  obtain ⟨y, h1, h2⟩ := bind_of hr
  obtain ⟨k, h3, h4⟩ := bind_of h2
  obtain ⟨jx, h5, h6⟩ := bind_of h4
  cases h6
  obtain ⟨j, h7, h8⟩ := bind_of h5
  obtain ⟨x, h9, h10⟩ := bind_of h8
  cases h10
  refine wE_of (pe_ix ix_list peW peW hs) (hp y h1 B M σ H _ inn ok fun v B1 H1 M1 M2 g1 em dj ⟨u, vs, N, ev, eN, dN, kk⟩ pb => hk k h3 B1 M σ H1 _ (inn.gr g1) (ok.mono g1.bb) fun w B2 H2 g2 r2 => ?_)
  subst eN
  obtain ⟨wj, N1, N2, ew, en, dn, r, pk⟩ := (kk.mono g2.bb).focus (sl_owns h9)
  subst en
  have ew' := map_some_at ew
  have hlen : (owns χ (get y)).length = (vs.map some).length := kk.len
  rw [owns_len, List.length_map] at hlen
  have hu2 : H2 u = some (.lst vs) := g2.hh _ _ (g1.hh _ _ (inn.m _ _ (by rw [em]; exact un_l (un_l sing_same))))
  have hat : atI vs k = some wj := by
    unfold atI
    rw [← hlen, h7]
    exact ew'
  refine ⟨u, vs, k, wj, ev, r2, SqL.of hu2, hat, ?_⟩
  have dN1 : Dj (sing u (.lst vs)) N1 := (dN.symm.un_l).symm
  have dN2 : Dj (sing u (.lst vs)) N2 := (dN.symm.un_r dn).symm
  have dj1 : Dj N1 M2 := (dj.un_r dN).un_l
  have dj2 : Dj N2 M2 := (dj.un_r dN).un_r dn
  have dj0 : Dj (sing u (.lst vs)) M2 := dj.un_l
  refine q wj B2 H2 N1 (un (sing u (.lst vs)) (un N2 M2)) (g1.trans g2) ?_ ?_ r fun x' B3 N1' s2 d2 r3 => ?_
  · rw [em, ← un_assoc, ← un_assoc, ← un_assoc, un_comm dN1]
  · exact (Dj.un dN1 (Dj.un dn.symm dj1.symm)).symm
  · have e1 : Dj N1' (sing u (.lst vs)) := d2.symm.un_l.symm
    have e23 : Dj N1' (un N2 M2) := (d2.symm.un_r ((Dj.un dN2.symm dj0.symm).symm)).symm
    have e2 : Dj N1' N2 := e23.symm.un_l.symm
    have e3 : Dj N1' M2 := (e23.symm.un_r dj2).symm
    have res := pb ((get y).set j x') B3 (un (sing u (.lst vs)) (un N1' N2)) (g2.bb.trans s2) (Dj.un dj0 (Dj.un e3 dj2)) ⟨u, vs, un N1' N2, ev, rfl, (Dj.un e1 dN2.symm).symm, by
      rw [← st_owns]; exact pk (χ x') B3 N1' s2 e2 r3⟩
    have : un N1' (un (sing u (.lst vs)) (un N2 M2)) = un (un (sing u (.lst vs)) (un N1' N2)) M2 := by
      rw [← un_assoc, un_comm e1, un_assoc, un_assoc, un_assoc]
    rw [this]
    exact res
/-! reading through an owned place -/
theorem ev_pfld {C : Addr} {names : List Str} {f : Str} {j : Nat} {m : Option β} {get : β → δ} {sf : δ → List Slot} {put : β → δ → List Slot} {τ : Ty γ} {h : δ → γ} (hp : PTm X a Γ m get (fun d => mObj C names (sf d)) put) (c : Cls X.K C) (n : NoAttr X.K C f)
    (hs : ∀ d, sl (sf d) j = .val (τ.P (h d)) := by intro _; rfl) (nd : names.Nodup := by decide +kernel) (hj : names[j]? = some f := by rfl) (hb : attributeBase a f X.env (eval a X.env) = eval a X.env := by rfl) :
    EVm X (.Attribute a f pos) Γ (o1 (fun b => h (get b)) m) τ := fun z hz B M σ H Q inn ok q => by
  obtain ⟨y, h1, rfl⟩ := o1_of hz
  refine wE_of (pe_fld peW hb) (hp y h1 B M σ H _ inn ok fun v B1 H1 M1 M2 g1 em dj ⟨u, dx, vs, N, ev, eN, dN, hl, k⟩ pb => ?_)
  obtain ⟨w, ew, r⟩ := k.val (hs _)
  have ew' := map_some_at ew
  subst eN
  have hu1 : H1 u = some (.ins C dx (names.zip vs)) := g1.hh _ _ (inn.m _ _ (by rw [em]; exact un_l (un_l sing_same)))
  exact ⟨u, C, dx, _, w, ev, hu1, c, n, zip_look nd hj ew', q w B1 H1 g1 r⟩
theorem ev_pix {m : Option β} {get : β → List γ} {τ : Ty γ} {put : β → List γ → List Slot} {mk : Option Int} (hp : PTm X a Γ m get (mList X.K τ) put) (hk : EVm X b Γ mk tInt) (hs : PlainIx b := by intro _ _; rfl) :
    EVm X (.Subscript a b pos) Γ (m.bind fun y => mk.bind fun k => atI (get y) k) τ := fun z hz B M σ H Q inn ok q => by
  obtain ⟨y, h1, h2⟩ := bind_of hz
  obtain ⟨k, h3, h4⟩ := bind_of h2
  refine wE_of (pe_ix ix_list peW peW hs) (hp y h1 B M σ H _ inn ok fun v B1 H1 M1 M2 g1 em dj ⟨u, vs, ev, eN, pr⟩ pb => hk k h3 B1 M σ H1 _ (inn.gr g1) (ok.mono g1.bb) fun w B2 H2 g2 r2 => ?_)
  subst eN
  obtain ⟨wj, hat, r⟩ := atI_paired pr h4
  have hu2 : H2 u = some (.lst vs) := g2.hh _ _ (g1.hh _ _ (inn.m _ _ (by rw [em]; exact un_l sing_same)))
  exact ⟨u, vs, k, wj, ev, r2, SqL.of hu2, hat, q wj B2 H2 (g1.trans g2) (τ.mono _ _ _ _ g2.bb r)⟩
/-- a value or None, where it is known to be there -/
theorem ev_get {m : Option (Option α)} {τ : Ty α} (h : EVm X e Γ m (tOpt τ)) : EVm X e Γ (m.bind fun z => z) τ := fun x hx B M σ H Q inn ok q => by
  obtain ⟨z, h1, h2⟩ := bind_of hx
  subst h2
  exact h _ h1 B M σ H Q inn ok fun v B' H' g r => q v B' H' g r.2
/-! changes -/
def appO (xs : List α) (x : α) : Option (List α) := if xs.length < 16777216 then some (xs ++ [x]) else none
def setO (xs : List α) (k : Int) (x : α) : Option (List α) := (ixN xs.length k).bind fun j => some (xs.set j x)
/-- one tracked object at a, a part of what is owned, is changed -/
theorem In.upd1 {B M1 M2 H : Hp} {a : Addr} {o o' : HO} (i : In B (un (sing a o) M2) H) (d : Dj (sing a o) M2) : In B (un (sing a o') M2) (L2.upd H a o') ∧ Stp B (un (sing a o) M2) H B (un (sing a o') M2) (L2.upd H a o') := by
  have e : ∀ u, un (un (sing a u) emp) M2 = un (sing a u) M2 := fun u => by rw [un_emp]
  have := In.upd (o' := o') (N := emp) (by rw [e]; exact i) (by rw [un_emp]; exact d) (Dj.emp _).symm
  rw [e, e] at this
  exact this
theorem bl_app {m : Option β} {get : β → List γ} {τ : Ty γ} {put : β → List γ → List Slot} {me : Option γ} {k : β → List γ → Option O} (hp : PTm X o Γ m get (mList X.K τ) put) (he : EVm X e Γ me τ) (hr : ∀ y ys, BL X rest (put y ys) (k y ys) J)
    (hbase : attributeBase o "append" X.env (eval o X.env) = eval o X.env := by rfl)
    (hfew : ((backTo cpos (starEach [e] X.env)).all (fun x => !x.1) && (backToKw cpos (keywordEach [] X.env)).all (fun x => x.1.isSome) && decide ([e].length + ([] : List Keyword).length + (if ([] : List Keyword).isEmpty then 0 else 1) < 30)) = true := by rfl)
    (hline : (apos.endLine == cpos.line) = true := by rfl) (hs : starEach [e] X.env = (false, eval e X.env) :: starEach [] X.env := by rfl) (hplain : (backTo cpos (starEach [] X.env)).any (·.1) = false := by rfl)
    (hsw : swapsWith (.Call (.Attribute o "append" apos) [e] [] cpos) none pos.line X.env = pure false := by rfl) :
    BL X (.Expr (.Call (.Attribute o "append" apos) [e] [] cpos) pos :: rest) Γ (m.bind fun y => me.bind fun x => (appO (get y) x).bind fun ys => k y ys) J := fun oo ho B M σ H D inn ok kk => by
  obtain ⟨y, h1, h2⟩ := bind_of ho
  obtain ⟨x, h3, h4⟩ := bind_of h2
  obtain ⟨ys, h5, h6⟩ := bind_of h4
  obtain ⟨hl, rfl⟩ := ite_of h5
  refine wSs_cons (wS_of (ps_expr (pe_bm PySem.F.plainAttrs_list PySem.F.slot_list_append PySem.F.type_list_append mt_append peW (pa_cons peW pa_nil hs) hbase hfew hline hs hplain) hsw) (hp y h1 B M σ H _ inn ok fun v B1 H1 M1 M2 g1 em dj ⟨u, vs, ev, eN, pr⟩ pb => ?_))
  subst ev eN
  have hu1 : H1 u = some (.lst vs) := g1.hh _ _ (inn.m _ _ (by rw [em]; exact un_l sing_same))
  refine ⟨.inl ⟨rfl, _, SqL.of hu1⟩, he x h3 B1 M σ H1 _ (inn.gr g1) (ok.mono g1.bb) fun w B2 H2 g2 r2 => ?_⟩
  have g := g1.trans g2
  have i2 := inn.gr g
  subst em
  have hu2 : H2 u = some (.lst vs) := g2.hh _ _ hu1
  refine ⟨u, vs, w, rfl, rfl, hu2, by rw [← paired_len pr, sizeLine_eq]; exact hl, ?_⟩
  obtain ⟨i3, s3⟩ := i2.upd1 (M1 := emp) (o' := .lst (vs ++ [w])) dj
  have ok3 := pb (get y ++ [x]) B2 (sing u (.lst (vs ++ [w]))) g2.bb (dj_sing dj) ⟨u, vs ++ [w], rfl, rfl, Paired.snoc (Paired.mapP pr fun x u r => τ.mono _ _ _ _ g2.bb r) r2⟩
  exact hr y _ oo h6 B2 _ σ _ D i3 ok3 (kk.step ((Stp.gr inn g).trans s3))
theorem paired_set {F : α → β → Prop} {x : α} {y : β} (h : F x y) : ∀ {xs : List α} {ys : List β} (j : Nat), Paired F xs ys → Paired F (xs.set j x) (ys.set j y)
  | _, _, _, .nil => .nil
  | _, _, 0, .cons _ t => .cons h t
  | _, _, j + 1, .cons r t => .cons r (paired_set h j t)
/-- p[k] = e -/
theorem bl_setI {m : Option β} {get : β → List γ} {τ : Ty γ} {put : β → List γ → List Slot} {me : Option γ} {mk : Option Int} {k : β → List γ → Option O} {tpos : Pos} (he : EVm X e Γ me τ) (hp : PTm X o Γ m get (mList X.K τ) put) (hk : EVm X b Γ mk tInt) (hr : ∀ y ys, BL X rest (put y ys) (k y ys) J)
    (hs : swapsWithSole [.Subscript o b tpos] e pos.line X.env = pure false := by rfl) (hw : swappedStores [.Subscript o b tpos] e X.env = pure none := by rfl) (ha : (assignEach [.Subscript o b tpos] X.env).map (·.2) = [assign (.Subscript o b tpos) X.env] := by rfl)
    (hpg : ∀ {to ti : TE} {t : TSet}, PE X o to → PE X b ti → PSet X t → PG X (.Subscript o b tpos) (gSub to ti t) := by exact fun ho hi hs => pg_sub ho hi hs) :
    BL X (.Assign [.Subscript o b tpos] e pos :: rest) Γ (me.bind fun x => m.bind fun y => mk.bind fun kk => (setO (get y) kk x).bind fun ys => k y ys) J := fun oo ho B M σ H D inn ok kk => by
  obtain ⟨x, h3, h4⟩ := bind_of ho
  obtain ⟨y, h1, h2⟩ := bind_of h4
  obtain ⟨kx, h5, h6⟩ := bind_of h2
  obtain ⟨ys, h7, h8⟩ := bind_of h6
  obtain ⟨j, h9, h10⟩ := bind_of h7
  cases h10
  refine wSs_cons (wS_of (ps_asg peW (hpg peW peW set_list) hs hw ha) (he x h3 B M σ H _ inn ok fun w B0 H0 g0 r0 => ?_))
  refine hp y h1 B0 M σ H0 _ (inn.gr g0) (ok.mono g0.bb) fun v B1 H1 M1 M2 g1 em dj ⟨u, vs, ev, eN, pr⟩ pb => ?_
  refine hk kx h5 B1 M σ H1 _ ((inn.gr g0).gr g1) ((ok.mono g0.bb).mono g1.bb) fun kv B2 H2 g2 r2 => ?_
  subst ev eN
  have g := (g0.trans g1).trans g2
  have i2 := inn.gr g
  subst em
  have hu2 : H2 u = some (.lst vs) := i2.m _ _ (un_l sing_same)
  refine ⟨u, vs, kx, j, rfl, r2, hu2, by rw [← paired_len pr]; exact h9, ?_⟩
  obtain ⟨i3, s3⟩ := i2.upd1 (M1 := emp) (o' := .lst (vs.set j w)) dj
  have ok3 := pb ((get y).set j x) B2 (sing u (.lst (vs.set j w))) g2.bb (dj_sing dj) ⟨u, vs.set j w, rfl, rfl, paired_set (F := fun x u => τ.rel x u B2) (τ.mono _ _ _ _ (g1.bb.trans g2.bb) r0) j (Paired.mapP pr fun x u r => τ.mono _ _ _ _ g2.bb r)⟩
  exact hr y _ oo h8 B2 _ σ _ D i3 ok3 (kk.step ((Stp.gr inn g).trans s3))
/-! what an expression does, and its value -/
def EFm (X : Cx) (e : Expr) (Γ : List Slot) {ρ α : Type} (m : Option ρ) (val : ρ → α) (τ : Ty α) (Γ' : ρ → List Slot) : Prop := ∀ r, m = some r → ∀ B M σ H (Q : VK), In B M H → OkS Γ σ B M → (∀ v B' M' H', Stp B M H B' M' H' → OkS (Γ' r) σ B' M' → τ.rel (val r) v B' → Q v H') → wE X e σ H Q
def IsInO (χ : γ → MO) (C : Addr) (m : Str) : Prop := ∀ g v B M, (χ g).p v B M → ∃ a dx fs, v = .ref a ∧ M a = some (.ins C dx fs) ∧ fs.lookup m = none
theorem isInO {C : Addr} {names : List Str} {sf : γ → List Slot} {m : Str} (h : m ∉ names) : IsInO (fun g => mObj C names (sf g)) C m := fun g v B M ⟨a, dx, vs, N, e, em, d, l, k⟩ => ⟨a, dx, names.zip vs, e, by subst em; exact un_l sing_same, zip_none h⟩
/-- behind a def that changed the part M1 -/
theorem after_mut {B M1 M2 H B3 M1' H3 : Hp} (i : In B (un M1 M2) H) (dj : Dj M1 M2) (s : Stp B M1 H B3 M1' H3) : Dj M1' M2 ∧ In B3 (un M1' M2) H3 ∧ Stp B (un M1 M2) H B3 (un M1' M2) H3 := by
  have h2 : ∀ a o, M2 a = some o → H a = some o := fun a o h => i.m a o (same_un_r dj a o h)
  have n1 : ∀ a o, M2 a = some o → M1 a = none := fun a o h => dj.symm a o h
  have d' : Dj M1' M2 := fun a o h => by
    cases z : M2 a with
    | none => rfl
    | some u => rw [s.newM a u (h2 a u z) (n1 a u z)] at h; cases h
  have i3 : In B3 (un M1' M2) H3 := ⟨s.i.b, same_un s.i.m fun a o h => s.fr a o (h2 a o h) (n1 a o h), Dj.un s.i.dj fun a o h => s.newB a o (h2 a o h) (i.dj a o (same_un_r dj a o h)) (n1 a o h)⟩
  refine ⟨d', i3, s.bb, i3, fun a o h n => s.fr a o h (un_none.mp n).1, fun a o h nb n => s.newB a o h nb (un_none.mp n).1, fun a o h n => un_none.mpr ⟨s.newM a o h (un_none.mp n).1, (un_none.mp n).2⟩⟩
/-- p.m(..): a method that changes its object -/
theorem ef_meth {C : Addr} {nm : Str} {k : Nat} {χ : γ → MO} {ρa : TyT α} {fm : γ → α → Option (γ × δ)} {τ : Ty δ} {m : Option β} {get : β → γ} {put : β → γ → List Slot} {ma : Option α} {pl : Sem Bool} (D : Mth X.prog X.w X.K X.mg X.base C nm k [] (spM χ ρa fm τ)) (hi : IsInO χ C nm) (hr : Room k X.A) (hp : PTm X a Γ m get χ put) (ha : EAm X (e :: es) Γ ma ρa) {mm : Option (β × (γ × δ))} (hM : mm = m.bind fun y => ma.bind fun x => (fm (get y) x).bind fun r => some (y, r) := by rfl)
    (hst : starEach (e :: es) X.env = (false, eval e X.env) :: starEach es X.env := by rfl) (hpl : (backTo pos (starEach es X.env)).any (·.1) = false := by rfl)
    (ht : eval (.Call (.Attribute a nm apos) (e :: es) [] pos) X.env = (do
      let ov ← eval a X.env
      standAt apos.atName
      let (f, first) ← holding [ov] (getMethod ov nm pl)
      callWith pos f first (backTo pos (starEach (e :: es) X.env)) (backToKw pos (keywordEach [] X.env))) := by rfl) :
    EFm X (.Call (.Attribute a nm apos) (e :: es) [] pos) Γ mm (fun r => r.2.2) τ (fun r => put r.1 r.2.1) := fun r hr' B M σ H Q inn ok q => by
  rw [hM] at hr'
  obtain ⟨y, h1, h2⟩ := bind_of hr'
  obtain ⟨x, h3, h4⟩ := bind_of h2
  obtain ⟨r', h5, h6⟩ := bind_of h4
  cases h6
  obtain ⟨f, fd, ps, dv, hc, me, bi, vd, F⟩ := D
  refine wE_of (pe_meth peW hc me F hr bi vd pass0 paW hst hpl ht) (hp y h1 B M σ H _ inn ok fun v B1 H1 M1 M2 g1 em dj r1 pb => ?_)
  obtain ⟨u, dx, fs, e1, e2, e3⟩ := hi _ v B1 M1 r1
  have i1 := inn.gr g1
  refine ⟨u, dx, fs, e1, i1.m _ _ (by rw [em]; exact un_l e2), e3, ?_⟩
  refine ha x h3 B1 M σ H1 _ i1 (ok.mono g1.bb) fun vs B2 H2 g2 r2 => ?_
  cases vd
  rw [List.append_nil]
  have i2 := i1.gr g2
  subst em
  refine ⟨B2, M1, get y, x, r', v, vs, rfl, ⟨i2.b, (same_un_l _ _).trans i2.m, i2.dj.un_l⟩, (χ (get y)).mono _ _ _ _ g2.bb r1, r2, h5, fun v' B3 M1' H3 s3 r3 r4 => ?_⟩
  obtain ⟨d3, i3, st3⟩ := after_mut i2 dj s3
  exact q v' B3 _ H3 ((Stp.gr inn (g1.trans g2)).trans st3) (pb r'.1 B3 M1' (g2.bb.trans s3.bb) d3 r3) r4
theorem ef_meth0 {C : Addr} {nm : Str} {k : Nat} {χ : γ → MO} {fm : γ → Unit → Option (γ × δ)} {τ : Ty δ} {m : Option β} {get : β → γ} {put : β → γ → List Slot} {pl : Sem Bool} (D : Mth X.prog X.w X.K X.mg X.base C nm k [] (spM χ tNil fm τ)) (hi : IsInO χ C nm) (hr : Room k X.A) (hp : PTm X a Γ m get χ put) {mm : Option (β × (γ × δ))} (hM : mm = m.bind fun y => (fm (get y) ()).bind fun r => some (y, r) := by rfl)
    (ht : eval (.Call (.Attribute a nm apos) [] [] pos) X.env = (do
      let ov ← eval a X.env
      standAt apos.atName
      let (f, first) ← holding [ov] (getMethod ov nm pl)
      callWith pos f first (backTo pos (starEach [] X.env)) (backToKw pos (keywordEach [] X.env))) := by rfl) :
    EFm X (.Call (.Attribute a nm apos) [] [] pos) Γ mm (fun r => r.2.2) τ (fun r => put r.1 r.2.1) := fun r hr' B M σ H Q inn ok q => by
  rw [hM] at hr'
  obtain ⟨y, h1, h2⟩ := bind_of hr'
  obtain ⟨r', h5, h6⟩ := bind_of h2
  cases h6
  obtain ⟨f, fd, ps, dv, hc, me, bi, vd, F⟩ := D
  refine wE_of (pe_meth0 peW hc me F hr bi vd pass0 ht) (hp y h1 B M σ H _ inn ok fun v B1 H1 M1 M2 g1 em dj r1 pb => ?_)
  obtain ⟨u, dx, fs, e1, e2, e3⟩ := hi _ v B1 M1 r1
  have i1 := inn.gr g1
  refine ⟨u, dx, fs, e1, i1.m _ _ (by rw [em]; exact un_l e2), e3, ?_⟩
  cases vd
  subst em
  refine ⟨B1, M1, get y, (), r', v, [], rfl, ⟨i1.b, (same_un_l _ _).trans i1.m, i1.dj.un_l⟩, r1, rfl, h5, fun v' B3 M1' H3 s3 r3 r4 => ?_⟩
  obtain ⟨d3, i3, st3⟩ := after_mut i1 dj s3
  exact q v' B3 _ H3 ((Stp.gr inn g1).trans st3) (pb r'.1 B3 M1' s3.bb d3 r3) r4
theorem bl_exprF {m : Option ρ} {val : ρ → α} {τ : Ty α} {Γ' : ρ → List Slot} {k : ρ → Option O} (he : EFm X e Γ m val τ Γ') (hr : ∀ r, BL X rest (Γ' r) (k r) J) (hs : swapsWith e none pos.line X.env = pure false := by rfl) : BL X (.Expr e pos :: rest) Γ (m.bind k) J := fun oo ho B M σ H D inn ok kk => by
  obtain ⟨r, h1, h2⟩ := bind_of ho
  exact wSs_cons (wS_of (ps_expr peW hs) (he r h1 B M σ H _ inn ok fun v B1 M1 H1 s1 ok1 _ => hr r oo h2 B1 M1 σ H1 D s1.i ok1 (kk.step s1)))
theorem bl_asgF {i : Nat} {x : Str} {m : Option ρ} {val : ρ → α} {τ : Ty α} {Γ' : ρ → List Slot} {k : ρ → Option O} (hN : X.N.Nodup) (hi : X.N[i]? = some x) (hx : Loc X.env.scope x) (he : EFm X e Γ m val τ Γ') (hr : ∀ r, BL X rest (G.st (Γ' r) i (.val (τ.P (val r)))) (k r) J)
    (hs : swapsWith e (some (.Name x pos')) pos.line X.env = pure false := by rfl) (hf : X.fn x = true ∨ X.env.scope.names.lookup x = some .local := by first | exact .inl rfl | exact .inr rfl | assumption) : BL X (.Assign [.Name x pos'] e pos :: rest) Γ (m.bind k) J := fun oo ho B M σ H D inn ok kk => by
  obtain ⟨r, h1, h2⟩ := bind_of ho
  refine wSs_cons (wS_of (ps_set hN hi hx peW hs hf) (he r h1 B M σ H _ inn ok fun v B1 M1 H1 s1 ok1 r1 => ?_))
  obtain ⟨M', s, ok'⟩ := ok1.set (i := i) (φ := τ.P (val r)) r1
  have s2 := s1.trans (Stp.drop s1.i s)
  exact hr r oo h2 B1 M' _ H1 D s2.i ok' (kk.step s2)
/-! ends of defs that own their first argument -/
theorem retM {χ : γ → MO} {τ : Ty δ} {Γ : List Slot} {d : γ} {u : V} {Γ' : List Slot} (h : Γ = .own ((χ d).at u) :: Γ') : ∀ (x : δ) (v : V) (σ : L2.St) (B M : Hp), OkS Γ σ B M → τ.rel x v B → ∃ M', Same M' M ∧ (fun (r : γ × δ) v B M => (χ r.1).p u B M ∧ τ.rel r.2 v B) (d, x) v B M' := fun x v σ B M ok r => by
  subst h
  cases σ with
  | nil => exact ok.elim
  | cons o σ =>
    obtain ⟨v', M1, M2, _, m, dj, ⟨e, p⟩, _⟩ := ok
    subst e m
    exact ⟨M1, same_un_l _ _, p, r⟩
theorem endM {χ : γ → MO} {Γ : List Slot} {d : γ} {u : V} {Γ' : List Slot} (h : Γ = .own ((χ d).at u) :: Γ') : ∀ (σ : L2.St) (B M : Hp), OkS Γ σ B M → ∃ M', Same M' M ∧ (fun (r : γ × Unit) v B M => (χ r.1).p u B M ∧ tNone.rel r.2 v B) (d, ()) .non B M' := fun σ B M ok => retM h () .non σ B M ok rfl
/-- return alone -/
theorem bl_retN {o : O} {post : V → Hp → Hp → Prop} (hJ : (J o).ret = some post) (hp : ∀ σ B M, OkS Γ σ B M → ∃ M', Same M' M ∧ post .non B M') : BL X (.Return none pos :: rest) Γ (some o) J := fun o' ho B M σ H D i ok k => by
  obtain rfl := Option.some.inj ho
  obtain ⟨M', s, pp⟩ := hp σ B M ok
  exact wSs_cons (wS_of ps_retN (k.ret hJ .non B M' H (Stp.drop i s) pp))
end
end G
/-! G9: lists made of lists, keywords, defs that change an argument, == of one's own. -/
namespace G
open PySem PySem.Spec PyProof.Rows L2
section
variable {X : Cx} {Γ Γ' : List Slot} {e a b c tg o : Expr} {es : List Expr} {pos p pos' apos cpos : Pos} {rest : List Stmt} {O : Type} {J : O → Oc} {α β γ δ S R ρ : Type}
/-- a new list laid at p -/
theorem newL {B H : Hp} {τ : Ty α} {xs : List α} {vs : List V} {p : Addr} (sb : Same B H) (hp : H p = none) (pr : Paired (fun x u => τ.rel x u B) xs vs) {K : PySem.W.Frag} {Q : VK}
    (q : ∀ v B' M' H', Gr B H B' H' → Same M' H' → (∀ a o, M' a = some o → H a = none ∧ B' a = none) → (mList K τ xs).p v B' M' → Q v H') : Q (.ref p) (upd H p (.lst vs)) := by
  refine q (.ref p) B (sing p (.lst vs)) _ (Gr.heap sb (same_upd hp)) (fun a o z => ?_) (fun a o z => ?_) ⟨p, vs, rfl, rfl, pr⟩
  · obtain ⟨e1, e2⟩ := sing_some z
    subst e1 e2
    exact upd_same
  · obtain ⟨e1, e2⟩ := sing_some z
    subst e1
    exact ⟨hp, fresh_of sb hp⟩
theorem eo_op {op : Operator} {τa : Ty α} {τb : Ty β} {ma : Option α} {mb : Option β} {μ : γ → MO} {g : α → β → Option γ} {r : R2} (ho : OpR X (binaryOp op) r)
    (hq : ∀ x y z, g x y = some z → ∀ v w B H (Q : VK), Same B H → τa.rel x v B → τb.rel y w B → (∀ v' B' M' H', Gr B H B' H' → Same M' H' → (∀ a o, M' a = some o → H a = none ∧ B' a = none) → (μ z).p v' B' M' → Q v' H') → r v w H Q)
    (ha : EVm X a Γ ma τa) (hb : EVm X b Γ mb τb) : EOm X (.BinOp a op b pos) Γ (o2 g ma mb) μ := fun z hz B M σ H Q i ok q => by
  obtain ⟨x, y, h1, h2, h3⟩ := o2_of hz
  intro pins s I
  refine wpAny_BinOp (bin peW peW (R := fun v w H2 => ∃ B2, Gr B H B2 H2 ∧ τa.rel x v B2 ∧ τb.rel y w B2) I ?_ fun v u s2 x' y' H2 I2 rx ry ⟨B2, g2, r1, r2⟩ => ?_)
  · refine ha x h1 B M σ H _ i ok fun v B1 H1 g1 r1 => hb y h2 B1 M σ H1 _ (i.gr g1) (ok.mono g1.bb) fun w B2 H2 g2 r2 => ⟨B2, g1.trans g2, τa.mono _ _ _ _ g2.bb r1, r2⟩
  · exact ho pins s2 σ H2 x' y' v u Q I2 rx ry (hq x y z h3 x' y' B2 H2 Q g2.bh r1 r2 fun v' B' M' H' g s n r => q v' B' M' H' (g2.trans g) s (fun a o h => ⟨fresh_of g2.hh (n a o h).1, (n a o h).2⟩) r)
def catG (xs ys : List α) : Option (List α) := if xs.length + ys.length ≤ 16777216 then some (xs ++ ys) else none
def repG (xs : List α) (k : Int) : Option (List α) := if -(2 ^ 63) ≤ k ∧ k < 2 ^ 63 ∧ xs.length * k.toNat ≤ 16777216 then some (List.replicate k.toNat xs).flatten else none
theorem paired_app {F : α → β → Prop} : ∀ {xs xs' : List α} {ys ys' : List β}, Paired F xs ys → Paired F xs' ys' → Paired F (xs ++ xs') (ys ++ ys')
  | _, _, _, _, .nil, h => h
  | _, _, _, _, .cons f t, h => .cons f (paired_app t h)
theorem paired_rep {F : α → β → Prop} {xs : List α} {ys : List β} (h : Paired F xs ys) : ∀ k : Nat, Paired F (List.replicate k xs).flatten (List.replicate k ys).flatten
  | 0 => .nil
  | k + 1 => by
    rw [List.replicate_succ, List.replicate_succ, List.flatten_cons, List.flatten_cons]
    exact paired_app h (paired_rep h k)
theorem eo_cat {τ : Ty α} {ma mb : Option (List α)} (ha : EVm X a Γ ma (tList X.K τ)) (hb : EVm X b Γ mb (tList X.K τ)) : EOm X (.BinOp a .Add b pos) Γ (o2 catG ma mb) (mList X.K τ) :=
  eo_op (τa := tList X.K τ) (τb := tList X.K τ) (μ := mList X.K τ) op_cat (fun x y z hz v w B H Q sb ⟨a, vs, e1, s1, p1⟩ ⟨b, ws, e2, s2, p2⟩ q => by
    obtain ⟨hl, rfl⟩ := ite_of hz
    exact ⟨a, b, vs, ws, e1, e2, sb _ _ s1, sb _ _ s2, by rw [← paired_len p1, ← paired_len p2, sizeLine_eq]; exact hl, fun p hp => newL sb hp (paired_app p1 p2) q⟩) ha hb
theorem eo_rep {τ : Ty α} {ma : Option (List α)} {mb : Option Int} (ha : EVm X a Γ ma (tList X.K τ)) (hb : EVm X b Γ mb tInt) : EOm X (.BinOp a .Mult b pos) Γ (o2 repG ma mb) (mList X.K τ) :=
  eo_op (τa := tList X.K τ) (τb := tInt) (μ := mList X.K τ) op_rep (fun x y z hz v w B H Q sb ⟨a, vs, e1, s1, p1⟩ e2 q => by
    obtain ⟨hl, rfl⟩ := ite_of hz
    exact ⟨a, y, vs, e1, e2, sb _ _ s1, hl.1, hl.2.1, by rw [← paired_len p1, sizeLine_eq]; exact hl.2.2, fun p hp => newL sb hp (paired_rep p1 _) q⟩) ha hb
/-! slices -/
def POm (X : Cx) (e : Option Expr) (Γ : List Slot) (m : Option (Option Int)) : Prop := ∃ t, PO X e t ∧ ∀ o, m = some o → ∀ B M σ H (Q : Option Int → Hp → Prop), In B M H → OkS Γ σ B M → (∀ B' H', Gr B H B' H' → Q o H') → t σ H Q
theorem po_n : POm X none Γ (some none) := ⟨_, po_none, fun o ho B M σ H Q i ok q => by cases ho; exact q B H (Gr.refl i.b)⟩
theorem po_s {m : Option Int} (h : EVm X e Γ m tInt) : POm X (some e) Γ (o1 some m) := ⟨_, po_some peW, fun o ho B M σ H Q i ok q => by
  obtain ⟨x, h1, rfl⟩ := o1_of ho
  exact h x h1 B M σ H _ i ok fun v B' H' g r => ⟨x, r, q B' H' g⟩⟩
def o3 (f : α → β → γ → Option δ) (a : Option α) (b : Option β) (c : Option γ) : Option δ := a.bind fun x => b.bind fun y => c.bind fun z => f x y z
theorem o3_some (f : α → β → γ → Option δ) (x : α) (y : β) (z : γ) : o3 f (some x) (some y) (some z) = f x y z := rfl
def cutG (xs : List α) (lo hi : Option Int) : Option (List α) := some ((xs.drop (HT.sIx xs.length 0 lo)).take (HT.sIx xs.length xs.length hi - HT.sIx xs.length 0 lo))
theorem paired_drop {F : α → β → Prop} : ∀ {xs : List α} {ys : List β} (n : Nat), Paired F xs ys → Paired F (xs.drop n) (ys.drop n)
  | _, _, 0, h => h
  | _, _, _ + 1, .nil => .nil
  | _, _, n + 1, .cons _ t => paired_drop n t
theorem paired_take {F : α → β → Prop} : ∀ {xs : List α} {ys : List β} (n : Nat), Paired F xs ys → Paired F (xs.take n) (ys.take n)
  | _, _, 0, _ => .nil
  | _, _, _ + 1, .nil => .nil
  | _, _, n + 1, .cons f t => .cons f (paired_take n t)
theorem paired_cut {F : α → V → Prop} {xs : List α} {ys : List V} (h : Paired F xs ys) (lo hi : Option Int) : Paired F ((xs.drop (HT.sIx xs.length 0 lo)).take (HT.sIx xs.length xs.length hi - HT.sIx xs.length 0 lo)) (cutV ys lo hi) := by
  unfold cutV
  rw [← paired_len h]
  exact paired_take _ (paired_drop _ h)
theorem eo_slice {lo hi : Option Expr} {p2 : Pos} {τ : Ty α} {m : Option (List α)} {ml mh : Option (Option Int)} (ha : EVm X a Γ m (tList X.K τ)) (hl : POm X lo Γ ml) (hh : POm X hi Γ mh) : EOm X (.Subscript a (.Slice lo hi none p2) pos) Γ (o3 cutG m ml mh) (mList X.K τ) := fun z hz B M σ H Q i ok q => by
  obtain ⟨x, h1, h2⟩ := bind_of hz
  obtain ⟨l, h3, h4⟩ := bind_of h2
  obtain ⟨u, h5, h6⟩ := bind_of h4
  cases h6
  obtain ⟨tl, pl, ql⟩ := hl
  obtain ⟨th, ph, qh⟩ := hh
  refine wE_of (pe_slice sl_list peW pl ph) (ha x h1 B M σ H _ i ok fun v B1 H1 g1 ⟨a, vs, e1, s1, p1⟩ => ql l h3 B1 M σ H1 _ (i.gr g1) (ok.mono g1.bb) fun B2 H2 g2 => qh u h5 B2 M σ H2 _ ((i.gr g1).gr g2) ((ok.mono g1.bb).mono g2.bb) fun B3 H3 g3 => ?_)
  have g := (g1.trans g2).trans g3
  refine ⟨a, vs, e1, SqL.of (g3.hh _ _ (g2.hh _ _ (g1.bh _ _ s1))), fun p hp => newL (τ := τ) (K := X.K) g.bh hp (Paired.mapP (paired_cut p1 l u) fun x u r => τ.mono _ _ _ _ (g2.bb.trans g3.bb) r) fun v' B' M' H' gg s n r => q v' B' M' H' (g.trans gg) s (fun a o h => ⟨fresh_of g.hh (n a o h).1, (n a o h).2⟩) r⟩
theorem paired_ints {B : Hp} : ∀ xs : List Int, Paired (fun x u => tInt.rel x u B) xs (xs.map V.int)
  | [] => .nil
  | _ :: xs => .cons rfl (paired_ints xs)
theorem eo_sliceS {lo hi : Option Expr} {p2 : Pos} {m : Option (List Int)} {ml mh : Option (Option Int)} (ha : EVm X a Γ m (tScr X.K)) (hl : POm X lo Γ ml) (hh : POm X hi Γ mh) : EOm X (.Subscript a (.Slice lo hi none p2) pos) Γ (o3 cutG m ml mh) (mList X.K tInt) := fun z hz B M σ H Q i ok q => by
  obtain ⟨x, h1, h2⟩ := bind_of hz
  obtain ⟨l, h3, h4⟩ := bind_of h2
  obtain ⟨u, h5, h6⟩ := bind_of h4
  cases h6
  obtain ⟨tl, pl, ql⟩ := hl
  obtain ⟨th, ph, qh⟩ := hh
  refine wE_of (pe_slice sl_list peW pl ph) (ha x h1 B M σ H _ i ok fun v B1 H1 g1 ⟨a, e1, s1⟩ => ql l h3 B1 M σ H1 _ (i.gr g1) (ok.mono g1.bb) fun B2 H2 g2 => qh u h5 B2 M σ H2 _ ((i.gr g1).gr g2) ((ok.mono g1.bb).mono g2.bb) fun B3 H3 g3 => ?_)
  have g := (g1.trans g2).trans g3
  refine ⟨a, _, e1, ((g1.bh.trans g2.hh).trans g3.hh).seq s1, fun p hp => newL (τ := tInt) (K := X.K) g.bh hp (paired_cut (paired_ints x) l u) fun v' B' M' H' gg s n r => q v' B' M' H' (g.trans gg) s (fun a o h => ⟨fresh_of g.hh (n a o h).1, (n a o h).2⟩) r⟩
/-! list(..), tuple(..), sum -/
theorem bi_listL {τ : Ty α} : BIO X "list" (tOne (tList X.K τ)) (fun xs => some xs) (mList X.K τ) := ⟨_, .inr ⟨"list", by decide +kernel, call_list_of⟩, fun x z hz vs B H Q sb ⟨v, ev, a, ws, ea, sq, pr⟩ q => by
  subst ev ea; cases hz
  exact ⟨a, ws, rfl, .inl (SqL.of (sb _ _ sq)), fun l hl => newL sb hl pr q⟩⟩
theorem bi_listT {τ : Ty α} : BIO X "list" (tOne (tTups X.K τ)) (fun xs => some xs) (mList X.K τ) := ⟨_, .inr ⟨"list", by decide +kernel, call_list_of⟩, fun x z hz vs B H Q sb ⟨v, ev, a, ws, ea, sq, pr⟩ q => by
  subst ev ea; cases hz
  exact ⟨a, ws, rfl, .inr (same_tup sb sq), fun l hl => newL sb hl pr q⟩⟩
theorem bi_tupL {τ : Ty α} : BIF X "tuple" (tOne (tList X.K τ)) (fun xs => some xs) (tTups X.K τ) := ⟨_, .inr ⟨"tuple", by decide +kernel, call_tuple_of⟩, fun x z hz vs B H Q sb ⟨v, ev, a, ws, ea, sq, pr⟩ q => by
  subst ev ea; cases hz
  exact ⟨a, ws, rfl, .inl ⟨SqL.of (sb _ _ sq), fun l hl => q _ _ _ (Gr.alloc sb hl) ⟨l, ws, rfl, SqT.of upd_same, Paired.mapP pr fun x u r => τ.mono _ _ _ _ (Gr.alloc sb hl (o := .tup ws)).bb r⟩⟩⟩⟩
theorem paired_int_eq {B : Hp} : ∀ {xs : List Int} {vs : List V}, Paired (fun x u => tInt.rel x u B) xs vs → vs = xs.map V.int
  | _, _, .nil => rfl
  | _, _, .cons f t => by rw [show _ = V.int _ from f, paired_int_eq t]; rfl
def sumL (xs : List Int) : Option Int := some xs.sum
theorem bi_sumL (hc : X.calm = true) : BIF X "sum" (tOne (tList X.K tInt)) sumL tInt := ⟨_, .inl ⟨"sum", by decide +kernel, cr_sum hc⟩, fun x z hz vs B H Q sb ⟨v, ev, a, ws, ea, sq, pr⟩ q => by
  subst ev ea; cases hz
  exact ⟨a, x, rfl, SqL.of (by rw [← paired_int_eq pr]; exact sb _ _ sq), q _ B H (Gr.refl sb) rfl⟩⟩
/-! p[k] += e -/
theorem get_list : PGet X (rIxL X.K) := by
  intro pins s σ H x y v u Q I rx ry h
  obtain ⟨p, xs, i, z, rfl, rfl, hq, he, q⟩ := h
  cases rx
  obtain ⟨t, rfl⟩ := ry
  obtain ⟨its, r, pl, hz⟩ := I.list hq
  obtain ⟨j, h1, h2, h3, h4, h5⟩ := atI_get he
  obtain ⟨w, ew, rw'⟩ := r.get h2
  have hl := r.length
  have hn := line63
  have fin : EP X pins σ Q w s := ⟨z, H, I, rw', q⟩
  by_cases h0 : 0 ≤ i
  · have hj : i.toNat = j := by
      rw [seqIndex_of h0 h5] at h1
      exact Option.some.inj h1
    exact wpAny_getItem_list pl.isList h0 (by omega) (by rw [hj]; simpa using ew) fin
  · have hj : (i + (its.toArray.size : Int)).toNat = j := by
      rw [seqIndex_neg (by omega) h4] at h1
      rw [List.size_toArray, ← hl]
      exact Option.some.inj h1
    exact wpAny_getItem_list_neg pl.isList (by omega) (by rw [List.size_toArray] <;> omega) (by omega) (by rw [hj]; simpa using ew) fin
theorem bl_augI {op : Operator} {m : Option β} {get : β → List Int} {put : β → List Int → List Slot} {mk me : Option Int} {f : Int → Int → Int} {k : β → List Int → Option O} {tpos : Pos} (hip : PIp X op (ipI f)) (hp : PTm X o Γ m get (mList X.K tInt) put) (hk : EVm X b Γ mk tInt) (he : EVm X e Γ me tInt) (hr : ∀ y ys, BL X rest (put y ys) (k y ys) J)
    (ha : ∀ ov iv new, augStore b ov iv new = (do holding [new, ov, iv] (setItem ov iv new); release [new, ov, iv] []; pure .next) := by intros; rfl) :
    BL X (.AugAssign (.Subscript o b tpos) op e pos :: rest) Γ (m.bind fun y => mk.bind fun kk => (atI (get y) kk).bind fun old => me.bind fun x => (setO (get y) kk (f old x)).bind fun ys => k y ys) J := fun oo ho B M σ H D inn ok kk => by
  obtain ⟨y, h1, h2⟩ := bind_of ho
  obtain ⟨kx, h3, h4⟩ := bind_of h2
  obtain ⟨old, h5, h6⟩ := bind_of h4
  obtain ⟨x, h7, h8⟩ := bind_of h6
  obtain ⟨ys, h9, h10⟩ := bind_of h8
  obtain ⟨j, h11, h12⟩ := bind_of h9
  cases h12
  refine wSs_cons (wS_of (ps_augS peW peW get_list peW hip set_list ha) (hp y h1 B M σ H _ inn ok fun v B1 H1 M1 M2 g1 em dj ⟨u, vs, ev, eN, pr⟩ pb => ?_))
  refine hk kx h3 B1 M σ H1 _ (inn.gr g1) (ok.mono g1.bb) fun kv B2 H2 g2 r2 => ?_
  subst ev eN
  obtain ⟨wj, hat, rold⟩ := atI_paired pr h5
  have i2 := (inn.gr g1).gr g2
  have hu2 : H2 u = some (.lst vs) := i2.m _ _ (by rw [em]; exact un_l sing_same)
  refine ⟨u, vs, kx, wj, rfl, r2, SqL.of hu2, hat, ?_⟩
  refine he x h7 B2 M σ H2 _ i2 ((ok.mono g1.bb).mono g2.bb) fun w B3 H3 g3 r3 => ⟨old, x, rold, r3, ?_⟩
  have g := (g1.trans g2).trans g3
  have i3 := inn.gr g
  subst em
  refine ⟨u, vs, kx, j, rfl, r2, i3.m _ _ (un_l sing_same), by rw [← paired_len pr]; exact h11, ?_⟩
  obtain ⟨i4, s4⟩ := i3.upd1 (M1 := emp) (o' := .lst (vs.set j (.int (f old x)))) dj
  have ok4 := pb ((get y).set j (f old x)) B3 (sing u (.lst (vs.set j (.int (f old x))))) (g2.bb.trans g3.bb) (dj_sing dj) ⟨u, vs.set j (.int (f old x)), rfl, rfl, paired_set (F := fun x u => tInt.rel x u B3) rfl j (Paired.mapP pr fun x u r => r)⟩
  exact hr y _ oo h10 B3 _ σ _ D i4 ok4 (kk.step ((Stp.gr inn g).trans s4))
/-! keywords -/
def EKm (X : Cx) (ks : List Keyword) (Γ : List Slot) {α : Type} (m : Option α) (ρ : TyT α) : Prop := ∃ t, PK X ks t ∧ ∀ x, m = some x → ∀ B M σ H (Q : List V → Hp → Prop), In B M H → OkS Γ σ B M → (∀ vs B' H', Gr B H B' H' → ρ.rel x vs B' → Q vs H') → t σ H Q
variable {kw : Option Str} {kpos : Pos} {ks : List Keyword}
theorem ek_one {m : Option α} {τ : Ty α} (h : EVm X e Γ m τ) : EKm X [⟨kw, e, kpos⟩] Γ m (tOne τ) := ⟨_, pk_cons peW pk_nil, fun x hx B M σ H Q i ok q => h x hx B M σ H _ i ok fun v B' H' g r => q [v] B' H' g ⟨v, rfl, r⟩⟩
theorem ek_cons {m : Option α} {τ : Ty α} {m' : Option β} {ρ : TyT β} (h : EVm X e Γ m τ) (h' : EKm X ks Γ m' ρ) : EKm X (⟨kw, e, kpos⟩ :: ks) Γ (a2 m m') (tCons τ ρ) := by
  obtain ⟨t, pk, k⟩ := h'
  refine ⟨_, pk_cons peW pk, fun x hx B M σ H Q i ok q => ?_⟩
  obtain ⟨h1, h2⟩ := a2_of hx
  refine h _ h1 B M σ H _ i ok fun v B1 H1 g1 r1 => ?_
  exact k _ h2 B1 M σ H1 _ (i.gr g1) (ok.mono g1.bb) fun vs B2 H2 g2 r2 => q (v :: vs) B2 H2 (g1.trans g2) ⟨v, vs, rfl, τ.mono _ v B1 B2 g2.bb r1, r2⟩
/-- C(e, .., k = v, ..) -/
def MakK (P : Program) (w : World) (K : PySem.W.Frag) (mg : Str → Option Value) (base : Heap) (cn : Str) (C : Addr) (k n : Nat) (ks : List Str) (gV : List V → List V → List V) (sp : Sp) : Prop := ∃ f fd ps g, mg cn = some (.ref C) ∧ Mk K C f ∧ KBn K fd ps (n + 1) ks g gV ∧ FnOk P w K mg base CX0 k f fd ps sp
theorem eo_makeK {C : Addr} {nm : Str} {k : Nat} {kn : List Str} {gV : List V → List V → List V} {ρ : TyT α} {ρ1 : TyT β} {ρ2 : TyT γ} {im : α → Option δ} {μ : δ → MO} {m1 : Option β} {m2 : Option γ} (ext : β × γ → α) (D : MakK X.prog X.w X.K X.mg X.base nm C k ρ1.len kn gV (spI C ρ im μ))
    (hx : ∀ u x y vs zs B, ρ1.rel x vs B → ρ2.rel y zs B → ∃ ws, gV (u :: vs) zs = u :: ws ∧ ρ.rel (ext (x, y)) ws B) (hn : ρ2.len = kn.length) (hr : Room (k + 1) X.A) (hg : Gl X nm) (ha : EAm X (e :: es) Γ m1 ρ1) (hk : EKm X ks Γ m2 ρ2)
    (hall : (backToKw pos (keywordEach ks X.env)).all (·.1.isSome) = true := by rfl) (hks : (backToKw pos (keywordEach ks X.env)).filterMap (·.1) = kn := by rfl) (hdb : (nm == ("__debug__" : Str)) = false := by decide)
    (he : starEach (e :: es) X.env = (false, eval e X.env) :: starEach es X.env := by rfl) (hpl : ((backTo pos (starEach (e :: es) X.env)).any (·.1) || (backToKw pos (keywordEach ks X.env)).any (·.1.isNone)) = false := by rfl) :
    EOm X (.Call (.Name nm p) (e :: es) ks pos) Γ ((a2 m1 m2).bind fun x => im (ext x)) μ := fun z hz B M σ H Q i ok q => by
  obtain ⟨x, h1, h2⟩ := bind_of hz
  obtain ⟨h3, h4⟩ := a2_of h1
  obtain ⟨f, fd, ps, g, mgn, mk, kb, F⟩ := D
  obtain ⟨tk, pk, qk⟩ := hk
  refine wE_of (pe_makeK mk F hr hg mgn kb pass0 paW pk hall hks hdb he hpl) (ha x.1 h3 B M σ H _ i ok fun vs B0 H0 g0 r0 => qk x.2 h4 B0 M σ H0 _ (i.gr g0) (ok.mono g0.bb) fun zs B1 H1 g1' r1 => ⟨ρ1.hlen _ _ _ r0, by rw [ρ2.hlen _ _ _ r1, hn], ?_⟩)
  intro u dx hu hdx hne
  have g1 := g0.trans g1'
  have s1 : Same H1 (upd (upd H1 dx (.own u)) u (.ins C dx [])) := fun a o h => by
    rw [upd_ne (ne_of_none h hu), upd_ne (ne_of_none h hdx)]
    exact h
  have i2 : In B1 (sing u (.ins C dx [])) (upd (upd H1 dx (.own u)) u (.ins C dx [])) := by
    refine ⟨g1.bh.trans s1, fun a o h => ?_, fun a o h => ?_⟩
    · obtain ⟨e1, e2⟩ := sing_some h
      subst e1 e2
      exact upd_same
    · obtain ⟨e1, e2⟩ := sing_some h
      subst e1
      exact fresh_of g1.bh hu
  obtain ⟨ws, ew, rw'⟩ := hx (.ref u) x.1 x.2 vs zs B1 (ρ1.mono _ _ _ _ g1'.bb r0) r1
  rw [ew]
  refine ⟨B1, sing u (.ins C dx []), ext x, z, .ref u, ws, rfl, i2, ?_, rw', h2, fun B2 M2 H2 st r => ⟨rfl, ?_⟩⟩
  · exact ⟨u, dx, [], emp, rfl, (un_emp _).symm, (Dj.emp _).symm, rfl, rfl⟩
  · have hn : ∀ a o, H1 a = some o → sing u (.ins C dx []) a = none := fun a o h => sing_ne (ne_of_none h hu)
    have gg : Gr B1 H1 B2 H2 := ⟨st.bb, fun a o h => st.fr a o (s1 a o h) (hn a o h), st.i.b, fun a o h nb => st.newB a o (s1 a o h) nb (hn a o h)⟩
    refine q (.ref u) B2 M2 H2 (g1.trans gg) st.i.m (fun a o h => ⟨?_, st.i.dj a o h⟩) r
    refine fresh_of g1.hh ?_
    cases z : H1 a with
    | none => rfl
    | some o' => rw [st.newM a o' (s1 a o' z) (hn a o' z)] at h; cases h
end
end G
/-! G10: owned fields in an __init__, list.index, sorted, chains of comparisons. -/
namespace G
open PySem PySem.Spec PyProof.Rows L2
section
variable {X : Cx} {Γ Γ' : List Slot} {e a b c tg o : Expr} {es : List Expr} {pos p pos' apos cpos : Pos} {rest : List Stmt} {O : Type} {J : O → Oc} {α β γ δ S R ρ : Type}
/-- self.f = e in an __init__, f is new, e is new and owned -/
theorem bl_fldIO {C : Addr} {names : List Str} {Γf : List Slot} {u : V} {i : Nat} {x f : Str} {m : Option α} {μ : α → MO} {k : α → Option O} (hΓ : sl Γ i = .own ((mObj C names Γf).at u)) (hN : X.N[i]? = some x) (hv : Vis X.env.scope x) (c : Cls X.K C) (n : NoAttr X.K C f)
    (he : EOm X e Γ m μ) (hr : ∀ y, BL X rest (G.st Γ i (.own ((mObj C (names ++ [f]) (Γf ++ [.own (μ y)])).at u))) (k y) J) (hf : (names.contains f) = false := by decide +kernel) (hl : names.length < 900 := by decide)
    (hd : (x == ("__debug__" : Str)) = false := by decide) (hcd : (x == ("__classdict__" : Str)) = false := by decide)
    (hs : swapsWith e (some (.Attribute (.Name x p) f pos')) pos.line X.env = pure false := by rfl) : BL X (.Assign [.Attribute (.Name x p) f pos'] e pos :: rest) Γ (m.bind k) J := fun oo ho B M σ H D inn ok kk => by
  obtain ⟨y, h1, h2⟩ := bind_of ho
  refine wSs_cons (wS_of (ps_fld (pe_var hN hv hd hcd) peW hs) (he y h1 B M σ H _ inn ok fun v B1 N0 H1 g1 n1 n2 r1 => ?_))
  have dN : Dj N0 M := fun a o h => by
    cases z : M a with
    | none => rfl
    | some u => have := (n2 a o h).1; rw [inn.m a u z] at this; cases this
  obtain ⟨w, N1, N2, e1, m1, d1, ⟨e2, a, dx, vs, M1, e3, m2, d2, l2, k2⟩, put⟩ := (ok.mono g1.bb).focus hΓ
  subst e3 m2
  have s1 := Stp.gr inn g1
  have i0 : In B1 (un N0 M) H1 := ⟨g1.bh, same_un n1 (inn.m.trans g1.hh), Dj.un (fun a o h => (n2 a o h).2) s1.i.dj⟩
  have hfn : f ∉ names := fun q => by rw [List.contains_iff_mem.mpr q] at hf; cases hf
  have i1 := inn.gr g1
  refine ⟨.ref a, e1, a, C, dx, names.zip vs, rfl, i1.m a _ (by rw [m1]; exact un_l (un_l sing_same)), c, n, ?_, ?_⟩
  · rw [List.length_zip]; exact Nat.lt_of_le_of_lt (Nat.min_le_left _ _) (Nat.lt_trans hl (by decide))
  · rw [putF_new l2 hfn]
    subst m1
    have dNa : Dj N0 (sing a (.ins C dx (names.zip vs))) := (dN.symm.un_l.un_l).symm
    have dNM : Dj N0 M1 := (dN.symm.un_l.un_r d2).symm
    have dN2 : Dj N0 N2 := (dN.symm.un_r d1).symm
    have eM : un N0 (un (un (sing a (.ins C dx (names.zip vs))) M1) N2) = un (un (sing a (.ins C dx (names.zip vs))) (un N0 M1)) N2 := by
      rw [← un_assoc, ← un_assoc, un_comm dNa, un_assoc (sing a _) N0 M1]
    have da : Dj (sing a (.ins C dx (names.zip vs))) (un N0 M1) := (Dj.un dNa d2.symm).symm
    have db : Dj (un (sing a (.ins C dx (names.zip vs))) (un N0 M1)) N2 := Dj.un d1.un_l (Dj.un dN2 (d1.un_r d2))
    obtain ⟨i2, s2⟩ := In.upd (N := un N0 M1) (o' := .ins C dx ((names ++ [f]).zip (vs ++ [v]))) (by rw [← eM]; exact i0) db da
    have ok2 := put ((mObj C (names ++ [f]) (Γf ++ [.own (μ y)])).at u) B1 (un (sing a (.ins C dx ((names ++ [f]).zip (vs ++ [v])))) (un N0 M1)) (Same.refl _) (Dj.un (dj_sing d1.un_l) (Dj.un dN2 (d1.un_r d2)))
      ⟨e2, a, dx, vs ++ [v], un N0 M1, rfl, rfl, dj_sing da, by simp [l2], by rw [List.map_append]; exact k2.snocO r1 dNM⟩
    refine hr y oo h2 B1 _ σ _ D i2 ok2 (kk.step ⟨g1.bb, i2, fun b u h nb => ?_, fun b u h nb nm => g1.new b u h nb, fun b u h nm => ?_⟩)
    · have : un N0 (un (un (sing a (.ins C dx (names.zip vs))) M1) N2) b = none := un_none.mpr ⟨(by
        cases z : N0 b with
        | none => rfl
        | some q => rw [(n2 b q z).1] at h; cases h), nb⟩
      exact s2.fr b u (g1.hh b u h) (by rw [← eM]; exact this)
    · have : un N0 (un (un (sing a (.ins C dx (names.zip vs))) M1) N2) b = none := un_none.mpr ⟨(by
        cases z : N0 b with
        | none => rfl
        | some q => rw [(n2 b q z).1] at h; cases h), nm⟩
      exact s2.newM b u (g1.hh b u h) (by rw [← eM]; exact this)
/-- return e, e new and owned -/
theorem bl_retO {J : α → Oc} {m : Option α} {μ : α → MO} (hJ : ∀ x, (J x).ret = some (fun v B M => (μ x).p v B M)) (he : EOm X e Γ m μ) : BL X (.Return (some e) pos :: rest) Γ m J := fun y hy B M σ H D inn ok kk => by
  refine wSs_cons (wS_of (ps_ret peW) (he y hy B M σ H _ inn ok fun v B1 N1 H1 g1 n1 n2 r1 => ?_))
  have i2 : In B1 N1 H1 := ⟨g1.bh, n1, fun a o h => (n2 a o h).2⟩
  refine kk.ret (hJ y) v B1 N1 H1 ⟨g1.bb, i2, fun a o h _ => g1.hh a o h, fun a o h nb _ => g1.new a o h nb, fun a o h _ => ?_⟩ r1
  cases z : N1 a with
  | none => rfl
  | some u => rw [(n2 a u z).1] at h; cases h
/-! calls of classes, the mirror's own form -/
theorem eo_mkK {C : Addr} {nm : Str} {k : Nat} {kn : List Str} {gV : List V → List V → List V} {ks : List Keyword} {ρ : TyT α} {ρ1 : TyT β} {ρ2 : TyT γ} {im : α → Option δ} {μ : δ → MO} {m1 : Option β} {m2 : Option γ} {g : β × γ → Option δ} (ext : β × γ → α) (D : MakK X.prog X.w X.K X.mg X.base nm C k ρ1.len kn gV (spI C ρ im μ))
    (hr : Room (k + 1) X.A) (hg : Gl X nm) (ha : EAm X (e :: es) Γ m1 ρ1) (hk : EKm X ks Γ m2 ρ2) (hn : ρ2.len = kn.length)
    (hx : ∀ u x y vs zs B, ρ1.rel x vs B → ρ2.rel y zs B → ∃ ws, gV (u :: vs) zs = u :: ws ∧ ρ.rel (ext (x, y)) ws B) (hG : ∀ x, g x = im (ext x) := by intro _; rfl)
    (hall : (backToKw pos (keywordEach ks X.env)).all (·.1.isSome) = true := by rfl) (hks : (backToKw pos (keywordEach ks X.env)).filterMap (·.1) = kn := by rfl) (hdb : (nm == ("__debug__" : Str)) = false := by decide)
    (he : starEach (e :: es) X.env = (false, eval e X.env) :: starEach es X.env := by rfl) (hpl : ((backTo pos (starEach (e :: es) X.env)).any (·.1) || (backToKw pos (keywordEach ks X.env)).any (·.1.isNone)) = false := by rfl) :
    EOm X (.Call (.Name nm p) (e :: es) ks pos) Γ ((a2 m1 m2).bind g) μ := by
  rw [show g = fun x => im (ext x) from funext hG]
  exact eo_makeK ext D hx hn hr hg ha hk hall hks hdb he hpl
theorem eo_mk {C : Addr} {nm : Str} {k : Nat} {ρ : TyT α} {ρ' : TyT δ} {im : α → Option β} {μ : β → MO} {ds : List V} {m : Option δ} {g : δ → Option β} (ext : δ → α) (D : Mak X.prog X.w X.K X.mg X.base nm C k ds (spI C ρ im μ)) (hr : Room (k + 1) X.A) (hg : Gl X nm) (ha : EAm X (e :: es) Γ m ρ')
    (hx : ∀ x vs B, ρ'.rel x vs B → ρ.rel (ext x) (vs ++ ds) B) (hG : ∀ x, g x = im (ext x) := by intro _; rfl)
    (hdb : (nm == ("__debug__" : Str)) = false := by decide) (he : starEach (e :: es) X.env = (false, eval e X.env) :: starEach es X.env := by rfl) (hpl : (backTo pos (starEach es X.env)).any (·.1) = false := by rfl) :
    EOm X (.Call (.Name nm p) (e :: es) [] pos) Γ (m.bind g) μ := by
  rw [show g = fun x => im (ext x) from funext hG]
  exact eo_make ext D hx hr hg ha hdb he hpl
/-! xs.index(y), whole numbers -/
def idxL : List Int → Int → Option Nat
  | [], _ => none
  | x :: xs, y => if x = y then some 0 else (idxL xs y).map (· + 1)
def indexG (xs : List Int) (y : Int) : Option Int := (idxL xs y).map fun (j : Nat) => (j : Int)
theorem idxL_at : ∀ {xs : List Int} {y : Int} {j : Nat}, idxL xs y = some j → xs[j]? = some y ∧ ∀ m z, m < j → xs[m]? = some z → z ≠ y
  | [], _, _, h => by cases h
  | x :: xs, y, j, h => by
    unfold idxL at h
    split at h
    · rename_i e
      cases h
      exact ⟨by rw [e]; rfl, fun m z hm _ => absurd hm (Nat.not_lt_zero _)⟩
    · rename_i e
      cases q : idxL xs y with
      | none => rw [q] at h; cases h
      | some i =>
        rw [q] at h
        cases h
        obtain ⟨h1, h2⟩ := idxL_at q
        refine ⟨h1, fun m z hm hz => ?_⟩
        cases m with
        | zero => cases hz; exact e
        | succ m => exact h2 m z (Nat.lt_of_succ_lt_succ hm) hz
theorem ev_index {m : Option (List Int)} {me : Option Int} (ho : EVm X o Γ m (tList X.K tInt)) (he : EVm X e Γ me tInt)
    (hbase : attributeBase o "index" X.env (eval o X.env) = eval o X.env := by rfl)
    (hfew : ((backTo cpos (starEach [e] X.env)).all (fun x => !x.1) && (backToKw cpos (keywordEach [] X.env)).all (fun x => x.1.isSome) && decide ([e].length + ([] : List Keyword).length + (if ([] : List Keyword).isEmpty then 0 else 1) < 30)) = true := by rfl)
    (hline : (apos.endLine == cpos.line) = true := by rfl) (hs : starEach [e] X.env = (false, eval e X.env) :: starEach [] X.env := by rfl) (hplain : (backTo cpos (starEach [] X.env)).any (·.1) = false := by rfl) :
    EVm X (.Call (.Attribute o "index" apos) [e] [] cpos) Γ (o2 indexG m me) tInt := fun z hz B M σ H Q i ok q => by
  obtain ⟨xs, y, h1, h2, h3⟩ := o2_of hz
  refine wE_of (pe_bm PySem.F.plainAttrs_list PySem.F.slot_list_index PySem.F.type_list_index mt_index peW (pa_cons peW pa_nil hs) hbase hfew hline hs hplain) (ho xs h1 B M σ H _ i ok fun v B1 H1 g1 ⟨a, vs, ev, sq, pr⟩ => ?_)
  subst ev
  refine ⟨.inl ⟨rfl, _, SqL.of (g1.bh _ _ sq)⟩, he y h2 B1 M σ H1 _ (i.gr g1) (ok.mono g1.bb) fun w B2 H2 g2 r2 => ?_⟩
  cases (show w = V.int y from r2)
  unfold indexG at h3
  cases qj : idxL xs y with
  | none => rw [qj] at h3; cases h3
  | some j =>
    rw [qj] at h3
    cases h3
    obtain ⟨k1, k2⟩ := idxL_at qj
    have evs := paired_int_eq pr
    refine ⟨a, vs, .int y, j, .int y, rfl, rfl, SqL.of (g2.hh _ _ (g1.bh _ _ sq)), rfl, ?_, ?_, ?_, ?_, q _ B2 H2 (g1.trans g2) rfl⟩
    · rw [evs, List.all_map]; exact List.all_eq_true.mpr fun _ _ => rfl
    · rw [evs, List.getElem?_map, k1]; rfl
    · show decide (y = y) = true
      simp
    · intro m z' hm hz'
      rw [evs, List.getElem?_map] at hz'
      cases qz : xs[m]? with
      | none => rw [qz] at hz'; cases hz'
      | some x =>
        rw [qz] at hz'
        cases hz'
        show decide (x = y) = false
        exact decide_eq_false (k2 m x hm qz)
/-! sorted, whole numbers -/
def sortI (xs : List Int) : Option (List Int) := some (xs.mergeSort fun a b => decide (a ≤ b))
theorem perm_sorted_eq : ∀ {xs ys : List Int}, xs.Perm ys → xs.Pairwise (· ≤ ·) → ys.Pairwise (· ≤ ·) → xs = ys
  | [], [], _, _, _ => rfl
  | [], _ :: _, h, _, _ => by have := h.length_eq; simp at this
  | _ :: _, [], h, _, _ => by have := h.length_eq; simp at this
  | x :: xs, y :: ys, h, h1, h2 => by
    obtain ⟨a1, a2⟩ := List.pairwise_cons.mp h1
    obtain ⟨b1, b2⟩ := List.pairwise_cons.mp h2
    have e : x = y := by
      have m1 : x ∈ y :: ys := h.mem_iff.mp List.mem_cons_self
      have m2 : y ∈ x :: xs := h.mem_iff.mpr List.mem_cons_self
      rcases List.mem_cons.mp m1 with e | m1
      · exact e
      · rcases List.mem_cons.mp m2 with e | m2
        · exact e.symm
        · have := b1 x m1
          have := a1 y m2
          omega
    subst e
    rw [perm_sorted_eq h.cons_inv a2 b2]
theorem sortI_spec (xs : List Int) : (xs.mergeSort fun a b => decide (a ≤ b)).Perm xs ∧ (xs.mergeSort fun a b => decide (a ≤ b)).Pairwise (· ≤ ·) := by
  refine ⟨List.mergeSort_perm _ _, ?_⟩
  have := List.pairwise_mergeSort (le := fun (a b : Int) => decide (a ≤ b)) (fun a b c h1 h2 => by simp at *; omega) (fun a b => by simp; omega) xs
  exact this.imp fun h => of_decide_eq_true h
theorem bi_sortI : BIO X "sorted" (tOne (tList X.K tInt)) sortI (mList X.K tInt) := ⟨_, .inl ⟨"sorted", by decide +kernel, cr_sortedI⟩, fun x z hz vs B H Q sb ⟨v, ev, a, ws, ea, sq, pr⟩ q => by
  subst ev ea
  cases hz
  refine ⟨a, x, rfl, SqL.of (by rw [← paired_int_eq pr]; exact sb _ _ sq), fun ns p hp hs hf => ?_⟩
  have e : ns = x.mergeSort fun a b => decide (a ≤ b) := perm_sorted_eq (hp.trans (sortI_spec x).1.symm) hs (sortI_spec x).2
  rw [e]
  exact newL (τ := tInt) sb hf (paired_ints _) q⟩
end
end G
/-! PL: plain laws of the mirrors' operations. -/
namespace Q
open L2 G
variable {α β γ S T : Type}
theorem modG_pos {i j : Int} (h : 0 < j) : modG i j = some (i % j) := if_pos h
theorem divG_pos {i j : Int} (h : 0 < j) (h2 : j < 1073741824) : divG i j = some (i / j) := if_pos ⟨h, h2⟩
theorem mulG_l {i j : Int} (h : -(2 ^ 64) < i ∧ i < 2 ^ 64) : mulG i j = some (i * j) := if_pos (.inl h)
theorem mulG_r {i j : Int} (h : -(2 ^ 64) < j ∧ j < 2 ^ 64) : mulG i j = some (i * j) := if_pos (.inr h)
theorem shlG_one {j : Int} (h0 : 0 ≤ j) (h1 : j ≤ 1000000) : shlG 1 j = some (2 ^ j.toNat) := by
  unfold shlG
  rw [if_pos ⟨h0, h1, by decide⟩, Int.one_mul]
theorem shrG_nn {i j : Int} (h0 : 0 ≤ j) : shrG i j = some (i / 2 ^ j.toNat) := if_pos h0
theorem atI_nat' {xs : List α} {k : Nat} : atI xs (k : Int) = xs[k]? := by
  unfold atI ixN
  by_cases h : k < xs.length
  · rw [if_pos (by omega), if_pos (by omega)]; rfl
  · rw [if_pos (by omega), if_neg (by omega), List.getElem?_eq_none (by omega)]; rfl
theorem atI_nn {xs : List α} {k : Int} (h : 0 ≤ k) : atI xs k = xs[k.toNat]? := by
  have := atI_nat' (xs := xs) (k := k.toNat)
  rwa [Int.toNat_of_nonneg h] at this
/-! for simp: no lemma by rfl (the kernel must not unfold the bounds) -/
theorem bS (f : α → Option β) (x : α) : (some x).bind f = f x := Eq.trans rfl rfl
theorem oS1 (f : α → β) (x : α) : o1 f (some x) = some (f x) := Eq.trans rfl rfl
theorem oS2 (f : α → β → Option γ) (x : α) (y : β) : o2 f (some x) (some y) = f x y := Eq.trans rfl rfl
theorem oS3 {δ : Type} (f : α → β → γ → Option δ) (x : α) (y : β) (z : γ) : o3 f (some x) (some y) (some z) = f x y z := Eq.trans rfl rfl
theorem aS2 (x : α) (y : β) : a2 (some x) (some y) = some (x, y) := Eq.trans rfl rfl
/-! a list as a function -/
def tab (n : Nat) (f : Nat → α) : List α := (List.range n).map f
@[simp] theorem tab_len (n : Nat) (f : Nat → α) : (tab n f).length = n := by unfold tab; rw [List.length_map, List.length_range]
theorem tab_at {n k : Nat} {f : Nat → α} (h : k < n) : (tab n f)[k]? = some (f k) := by
  unfold tab; rw [List.getElem?_map, List.getElem?_range h]; rfl
theorem tab_ix {n : Nat} {k : Nat} {f : Nat → α} (h : k < n) : atI (tab n f) (k : Int) = some (f k) := by rw [atI_nat', tab_at h]
theorem tab_congr {n : Nat} {f g : Nat → α} (h : ∀ k, k < n → f k = g k) : tab n f = tab n g := by
  unfold tab
  exact List.map_congr_left fun k hk => h k (List.mem_range.mp hk)
theorem tab_inj {n : Nat} {f g : Nat → α} (h : tab n f = tab n g) : ∀ k, k < n → f k = g k := fun k hk => by
  have := tab_at (f := f) hk
  rw [h, tab_at hk] at this
  exact (Option.some.inj this).symm
theorem tab_of (d : α) (xs : List α) : xs = tab xs.length fun k => xs.getD k d := by
  refine List.ext_getElem? fun k => ?_
  by_cases h : k < xs.length
  · rw [tab_at h, List.getD_eq_getElem?_getD, List.getElem?_eq_getElem h]; rfl
  · rw [List.getElem?_eq_none (by omega), List.getElem?_eq_none (by rw [tab_len]; omega)]
def upF (f : Nat → α) (k : Nat) (x : α) : Nat → α := fun j => if j = k then x else f j
@[simp] theorem upF_same (f : Nat → α) (k : Nat) (x : α) : upF f k x k = x := if_pos rfl
theorem upF_ne {f : Nat → α} {k j : Nat} {x : α} (h : j ≠ k) : upF f k x j = f j := if_neg h
theorem tab_set {n k : Nat} {f : Nat → α} {x : α} : (tab n f).set k x = tab n (upF f k x) := by
  refine List.ext_getElem? fun j => ?_
  rw [List.getElem?_set]
  by_cases h : k = j
  · subst h
    by_cases hk : k < n
    · rw [if_pos rfl, tab_len, if_pos hk, tab_at hk, upF_same]
    · rw [if_pos rfl, tab_len, if_neg hk, List.getElem?_eq_none (by rw [tab_len]; omega)]
  · rw [if_neg h]
    by_cases hj : j < n
    · rw [tab_at hj, tab_at hj, upF_ne (fun e => h e.symm)]
    · rw [List.getElem?_eq_none (by rw [tab_len]; omega), List.getElem?_eq_none (by rw [tab_len]; omega)]
theorem setO_tab {n k : Nat} {f : Nat → α} {x : α} (h : k < n) : setO (tab n f) (k : Int) x = some (tab n (upF f k x)) := by
  unfold setO ixN
  rw [tab_len, if_pos (by omega), if_pos (by omega), Option.bind_some, Int.toNat_natCast, tab_set]
theorem repG_one {x : α} {n : Nat} (h : n ≤ 16777216) : repG [x] (n : Int) = some (tab n fun _ => x) := by
  unfold repG
  rw [if_pos ⟨by omega, by omega, by simp; omega⟩, Int.toNat_natCast]
  congr 1
  unfold tab
  induction n with
  | zero => rfl
  | succ n ih =>
    rw [List.replicate_succ', List.flatten_append, ih (by omega), List.range_succ, List.map_append]
    rfl
theorem appO_some {xs : List α} {x : α} (h : xs.length < 16777216) : appO xs x = some (xs ++ [x]) := if_pos h
theorem catG_some {xs ys : List α} (h : xs.length + ys.length ≤ 16777216) : catG xs ys = some (xs ++ ys) := if_pos h
/-! ranges -/
def nts (xs : List Nat) : List Int := xs.map fun (k : Nat) => (k : Int)
theorem rngG_nat {n : Nat} (h : n ≤ 16777216) : rngG (n : Int) = some (nts (List.range n)) := by
  unfold rngG
  rw [if_pos ⟨by omega, by omega⟩]
  unfold irange nts
  rw [Int.toNat_natCast]
  congr 1
  exact List.map_congr_left fun k _ => by omega
theorem rngG2_nat {lo hi : Nat} (h : lo ≤ hi) (h2 : hi ≤ 16777216) : rngG2 (lo : Int) (hi : Int) = some (nts ((List.range (hi - lo)).map (lo + ·))) := by
  unfold rngG2
  rw [if_pos ⟨by omega, by omega, by omega, by omega, by omega⟩]
  unfold irange nts
  rw [List.map_map, show ((hi : Int) - (lo : Int)).toNat = hi - lo by omega]
  congr 1
theorem rngG2_none {lo hi : Int} (h : hi ≤ lo) (h1 : -(2 ^ 62) ≤ hi) (h2 : -(2 ^ 62) ≤ lo) (h3 : lo < 2 ^ 62) : rngG2 lo hi = some [] := by
  unfold rngG2
  rw [if_pos ⟨h2, h3, h1, by omega, by omega⟩]
  unfold irange
  rw [show (hi - lo).toNat = 0 by omega]; rfl
@[simp] theorem nts_len (xs : List Nat) : (nts xs).length = xs.length := by unfold nts; exact List.length_map ..
theorem mem_nts {xs : List Nat} {k : Nat} : (k : Int) ∈ nts xs ↔ k ∈ xs := by
  unfold nts
  rw [List.mem_map]
  exact ⟨fun ⟨j, h, e⟩ => by rw [← Int.ofNat.inj e]; exact h, fun h => ⟨k, h, rfl⟩⟩
theorem mem_nts' {xs : List Nat} {z : Int} : z ∈ nts xs ↔ ∃ k : Nat, k ∈ xs ∧ z = (k : Int) := by
  unfold nts
  rw [List.mem_map]
  exact ⟨fun ⟨j, h, e⟩ => ⟨j, h, e.symm⟩, fun ⟨j, h, e⟩ => ⟨j, h, e.symm⟩⟩
theorem nts_append (xs ys : List Nat) : nts (xs ++ ys) = nts xs ++ nts ys := List.map_append ..
/-! loops -/
/-- a loop, told by a plain fold: P holds all the while -/
theorem foldO_to {f : S → α → Option S} {g : T → β → T} (R : T → S) (ρ : β → α) (P : T → Prop) {bs : List β} (h : ∀ t b, b ∈ bs → P t → f (R t) (ρ b) = some (R (g t b)) ∧ P (g t b)) : ∀ {t : T}, P t → foldO f (R t) (bs.map ρ) = some (R (bs.foldl g t)) ∧ P (bs.foldl g t) := by
  induction bs with
  | nil => exact fun hp => ⟨rfl, hp⟩
  | cons b bs ih =>
    intro t hp
    obtain ⟨e, hp1⟩ := h t b List.mem_cons_self hp
    obtain ⟨e2, hp2⟩ := ih (fun t b hb => h t b (List.mem_cons_of_mem _ hb)) hp1
    refine ⟨?_, hp2⟩
    show (f (R t) (ρ b)).bind _ = _
    rw [e]
    exact e2
/-- .. over the first n whole numbers: what holds behind k turns -/
theorem foldO_range {f : S → Int → Option S} (I : Nat → S → Prop) {n : Nat} (h : ∀ k s, k < n → I k s → ∃ s', f s (k : Int) = some s' ∧ I (k + 1) s') : ∀ {s : S}, I 0 s → ∃ s', foldO f s (nts (List.range n)) = some s' ∧ I n s' := by
  have gen : ∀ m k, k + m = n → ∀ s, I k s → ∃ s', foldO f s (nts ((List.range m).map (k + ·))) = some s' ∧ I n s' := by
    intro m
    induction m with
    | zero => exact fun k e s hi => ⟨s, rfl, by rw [← e]; exact hi⟩
    | succ m ih =>
      intro k e s hi
      obtain ⟨s1, e1, i1⟩ := h k s (by omega) hi
      obtain ⟨s2, e2, i2⟩ := ih (k + 1) (by omega) s1 i1
      refine ⟨s2, ?_, i2⟩
      have : nts ((List.range (m + 1)).map (k + ·)) = (k : Int) :: nts ((List.range m).map ((k + 1) + ·)) := by
        rw [List.range_succ_eq_map, List.map_cons, List.map_map]
        unfold nts
        rw [List.map_cons]
        congr 1
        congr 1
        exact List.map_congr_left fun j _ => by simp; omega
      rw [this]
      show (f s (k : Int)).bind _ = _
      rw [e1]
      exact e2
  intro s hi
  have := gen n 0 (by omega) s hi
  simpa using this
/-- a loop that appends, always or where p holds -/
theorem foldO_app {f : List β → α → Option (List β)} {g : α → β} {xs : List α} (h : ∀ s x, x ∈ xs → s.length < 16777216 → f s x = some (s ++ [g x])) : ∀ {s : List β}, s.length + xs.length ≤ 16777216 → foldO f s xs = some (s ++ xs.map g) := by
  induction xs with
  | nil => intro s _; rw [List.map_nil, List.append_nil]; rfl
  | cons x xs ih =>
    intro s hl
    rw [List.length_cons] at hl
    show (f s x).bind _ = _
    rw [h s x List.mem_cons_self (by omega), Option.bind_some, ih (fun s y hy => h s y (List.mem_cons_of_mem _ hy)) (by rw [List.length_append]; simp; omega), List.map_cons, List.append_assoc]
    rfl
theorem foldO_appF {f : List β → α → Option (List β)} {p : α → Bool} {g : α → β} {xs : List α} (h : ∀ s x, x ∈ xs → s.length < 16777216 → f s x = some (if p x = true then s ++ [g x] else s)) : ∀ {s : List β}, s.length + xs.length ≤ 16777216 → foldO f s xs = some (s ++ (xs.filter p).map g) := by
  induction xs with
  | nil => intro s _; rw [List.filter_nil, List.map_nil, List.append_nil]; rfl
  | cons x xs ih =>
    intro s hl
    rw [List.length_cons] at hl
    show (f s x).bind _ = _
    rw [h s x List.mem_cons_self (by omega), Option.bind_some, List.filter_cons]
    cases q : p x with
    | true =>
      rw [if_pos rfl, if_pos rfl, ih (fun s y hy => h s y (List.mem_cons_of_mem _ hy)) (by rw [List.length_append]; simp; omega), List.map_cons, List.append_assoc]
      rfl
    | false =>
      rw [if_neg (by decide), if_neg (by decide)]
      exact ih (fun s y hy => h s y (List.mem_cons_of_mem _ hy)) (by omega)
theorem compO_map {f : α → Option β} {g : α → β} : ∀ {xs : List α}, (∀ x ∈ xs, f x = some (g x)) → compO (fun _ => some true) f xs = some (xs.map g)
  | [], _ => rfl
  | x :: xs, h => by
    show (f x).bind _ = _
    rw [h x List.mem_cons_self, Option.bind_some]
    rw [compO_map fun y hy => h y (List.mem_cons_of_mem _ hy)]
    rfl
theorem compO_filter {t : α → Option Bool} {p : α → Bool} {f : α → Option β} {g : α → β} : ∀ {xs : List α}, (∀ x ∈ xs, t x = some (p x)) → (∀ x ∈ xs, p x = true → f x = some (g x)) → compO t f xs = some ((xs.filter p).map g)
  | [], _, _ => rfl
  | x :: xs, h, h2 => by
    show (t x).bind _ = _
    rw [h x List.mem_cons_self, Option.bind_some, List.filter_cons]
    have ih := compO_filter (xs := xs) (fun y hy => h y (List.mem_cons_of_mem _ hy)) fun y hy => h2 y (List.mem_cons_of_mem _ hy)
    cases q : p x with
    | true =>
      rw [if_pos rfl, if_pos rfl, h2 x List.mem_cons_self q, Option.bind_some, ih]
      rfl
    | false => rw [if_neg (by decide), if_neg (by decide)]; exact ih
theorem compO_nts {f : Int → Option β} {g : Nat → β} {xs : List Nat} (h : ∀ k ∈ xs, f (k : Int) = some (g k)) : compO (fun _ => some true) f (nts xs) = some (xs.map g) := by
  induction xs with
  | nil => rfl
  | cons k xs ih =>
    show (f (k : Int)).bind (fun y => (compO (fun _ => some true) f (nts xs)).bind fun ys => some (y :: ys)) = _
    rw [h k List.mem_cons_self, Option.bind_some, ih fun j hj => h j (List.mem_cons_of_mem _ hj)]
    rfl
theorem compO_ntsF {t : Int → Option Bool} {p : Nat → Bool} {f : Int → Option β} {g : Nat → β} {xs : List Nat} (h : ∀ k ∈ xs, t (k : Int) = some (p k)) (h2 : ∀ k ∈ xs, p k = true → f (k : Int) = some (g k)) : compO t f (nts xs) = some ((xs.filter p).map g) := by
  induction xs with
  | nil => rfl
  | cons k xs ih =>
    show (t (k : Int)).bind _ = _
    rw [h k List.mem_cons_self, Option.bind_some, List.filter_cons]
    have ih := ih (fun y hy => h y (List.mem_cons_of_mem _ hy)) fun y hy => h2 y (List.mem_cons_of_mem _ hy)
    cases q : p k with
    | true =>
      rw [if_pos rfl, if_pos rfl, h2 k List.mem_cons_self q, Option.bind_some]
      show (compO t f (nts xs)).bind _ = _
      rw [ih]
      rfl
    | false => rw [if_neg (by decide), if_neg (by decide)]; exact ih
theorem compO_nts' {t : Int → Option Bool} {p : Nat → Bool} {xs : List Nat} (h : ∀ k ∈ xs, t (k : Int) = some (p k)) : compO t (fun j => some j) (nts xs) = some (nts (xs.filter p)) := compO_ntsF (g := fun (k : Nat) => (k : Int)) h fun _ _ _ => rfl
theorem min2 (a b : Int) : (if b < a then b else a) = min a b := by omega
theorem max2 (a b : Int) : (if b > a then b else a) = max a b := by omega
theorem andO_some (a b : Bool) : andO (some a) (some b) = some (a && b) := by cases a <;> rfl
theorem andO_F (b : Option Bool) : andO (some false) b = some false := rfl
theorem andO_T (b : Option Bool) : andO (some true) b = b := rfl
theorem orO_some (a b : Bool) : orO (some a) (some b) = some (a || b) := by cases a <;> rfl
theorem orO_T (b : Option Bool) : orO (some true) b = some true := rfl
theorem orO_F (b : Option Bool) : orO (some false) b = b := rfl
/-- sorted, told by what is in it -/
theorem sort_eq {xs ys : List Int} (h : xs.Perm ys) (hs : ys.Pairwise (· ≤ ·)) : sortI xs = some ys := by
  unfold sortI
  rw [perm_sorted_eq ((sortI_spec xs).1.trans h) (sortI_spec xs).2 hs]
theorem nodup_sorted_eq {xs ys : List Int} (hx : xs.Pairwise (· < ·)) (hy : ys.Pairwise (· < ·)) (h : ∀ z, z ∈ xs ↔ z ∈ ys) : xs = ys := by
  have nx : xs.Nodup := hx.imp fun h => by omega
  have ny : ys.Nodup := hy.imp fun h => by omega
  exact perm_sorted_eq ((List.perm_ext_iff_of_nodup nx ny).mpr h) (hx.imp fun h => by omega) (hy.imp fun h => by omega)
end Q
/-! G11: == and != by an own __eq__, isinstance. -/
namespace GB
open PySem PySem.SeqAt
open AutoSeq1 (wpAny_loadPart')
open MeetsSeq MeetsSeq2 MeetsSeq3 SeqRoads2 GQ
section
variable {prog : Program} {w : World} {A : Around} {R : Result → Shared → Prop}
/-- at each turn the two lists are read anew; the i-th two are compared to e i -/
def ListB (prog : Program) (w : World) (A : Around) (E : Value → Shared → Prop) (l b : Addr) (N : Nat) (e : Nat → Bool) (I : Nat → Shared → Prop) : Prop :=
  ∀ i s, I i s → ∃ (items items2 : Array Value) (n n2 : Nat), s.heap.get? l = some { cls := .type "list", data := .seq items n } ∧ s.heap.get? b = some { cls := .type "list", data := .seq items2 n2 } ∧ items.size = N ∧ items2.size = N ∧
    ∀ (h1 : i < items.size) (h2 : i < items2.size), wpAny (model prog w) A.in1 (eqBool items[i] items2[i]) (fun r s' => r = e i ∧ I (i + 1) s') E s
theorem all_true {N : Nat} {e : Nat → Bool} (h : ∀ j, j < N → e j = true) : (List.range N).all e = true := List.all_eq_true.mpr fun j hj => h j (List.mem_range.mp hj)
theorem all_false {N i : Nat} {e : Nat → Bool} (h : i < N) (he : e i = false) : (List.range N).all e = false := by
  cases q : (List.range N).all e with
  | false => rfl
  | true => rw [List.all_eq_true.mp q i (List.mem_range.mpr h)] at he; cases he
theorem eq_loopB (l b : Addr) (N : Nat) (e : Nat → Bool) (I : Nat → Shared → Prop) (hl : ListB prog w A (fun e s' => R (.error e) s') l b N e I)
    (fin : ∀ i s, I i s → R (.ok (.ret (.bool ((List.range N).all e)))) s) (k : Nat) :
    ∀ i : Nat, N - i = k → i ≤ N → (∀ j, j < i → e j = true) → ∀ s, I i s →
      wpAny (model prog w) A.in1 (Builtin.«list.__eq__.loop» ⟨[.ref l, .ref b, rawInt i, rawInt 2], []⟩) (FinOf prog w A R) (fun e s' => R (.error e) s') s := by
  induction k with
  | zero =>
    intro i hk hi hpre s h
    obtain ⟨items, items2, n, n2, hl1, hb1, hs1, hs2, _⟩ := hl _ _ h
    have hR := fin i s h
    have hi' : i = N := by omega
    rw [all_true (fun j hj => hpre j (by omega))] at hR
    obtain ⟨hp, g, d, tk, os⟩ := s
    wp_walk using wpAny_loadPart' hl1, wpAny_loadPart' hb1
    have hi1 : items[((i : Nat) : Int).toNat]? = none := by simp; omega
    have hi2 : items2[((i : Nat) : Int).toNat]? = none := by simp; omega
    rw [hi1, hi2]
    wp_walk using wpAny_loadPart' hl1, wpAny_loadPart' hb1
    show R (.ok (.ret (.bool (items.size == items2.size)))) _
    rw [hs1, hs2]
    simpa using hR
  | succ k ih =>
    intro i hk hi hpre s h
    obtain ⟨items, items2, n, n2, hl1, hb1, hs1, hs2, turn⟩ := hl _ _ h
    have hlt : i < items.size := by omega
    have hlt2 : i < items2.size := by omega
    have ht := turn hlt hlt2
    obtain ⟨hp, g, d, tk, os⟩ := s
    wp_walk using wpAny_loadPart' hl1, wpAny_loadPart' hb1
    have hi1 : items[((i : Nat) : Int).toNat]? = some items[i] := by simp [hlt]
    have hi2 : items2[((i : Nat) : Int).toNat]? = some items2[i] := by simp [hlt2]
    have hc : ((i : Int) + 1) = ((i + 1 : Nat) : Int) := by omega
    rw [hi1, hi2]
    refine wpAny_bind (wpAny_mono ht (fun r s2 h2 => ?_) fun _ _ x => x)
    obtain ⟨hr, h2⟩ := h2
    subst hr
    cases he : e i with
    | true =>
      have hrec := ih (i + 1) (by omega) (by omega) (fun j hj => by
        rcases Nat.lt_succ_iff_lt_or_eq.mp hj with hj | hj
        · exact hpre j hj
        · rw [hj]; exact he) s2 h2
      obtain ⟨hp2, g2, d2, tk2, os2⟩ := s2
      wp_walk
      rw [hc]
      exact ⟨plainId_quiet plain_eq_loop _, codeAny_builtin entry_eq_loop (by
        rw [Around.under_plainId plain_eq_loop _]
        exact hrec)⟩
    | false =>
      have hR := fin _ _ h2
      rw [all_false (by omega) he] at hR
      obtain ⟨jtems, jtems2, m, m2, hl3, hb3, hs3, hs4, _⟩ := hl _ _ h2
      obtain ⟨hp2, g2, d2, tk2, os2⟩ := s2
      wp_walk using wpAny_loadPart' hl3, wpAny_loadPart' hb3
      have hi3 : jtems[((i : Nat) : Int).toNat]? = some (jtems[i]'(by omega)) := by simp [show i < jtems.size by omega]
      have hi4 : jtems2[((i : Nat) : Int).toNat]? = some (jtems2[i]'(by omega)) := by simp [show i < jtems2.size by omega]
      rw [hi3, hi4]
      wp_walk
      simpa using hR
theorem ne_loopB (l b : Addr) (N : Nat) (e : Nat → Bool) (I : Nat → Shared → Prop) (hl : ListB prog w A (fun e s' => R (.error e) s') l b N e I)
    (fin : ∀ i s, I i s → R (.ok (.ret (.bool (!(List.range N).all e)))) s) (k : Nat) :
    ∀ i : Nat, N - i = k → i ≤ N → (∀ j, j < i → e j = true) → ∀ s, I i s →
      wpAny (model prog w) A.in1 (Builtin.«list.__eq__.loop» ⟨[.ref l, .ref b, rawInt i, rawInt 3], []⟩) (FinOf prog w A R) (fun e s' => R (.error e) s') s := by
  induction k with
  | zero =>
    intro i hk hi hpre s h
    obtain ⟨items, items2, n, n2, hl1, hb1, hs1, hs2, _⟩ := hl _ _ h
    have hR := fin i s h
    have hi' : i = N := by omega
    rw [all_true (fun j hj => hpre j (by omega))] at hR
    obtain ⟨hp, g, d, tk, os⟩ := s
    wp_walk using wpAny_loadPart' hl1, wpAny_loadPart' hb1
    have hi1 : items[((i : Nat) : Int).toNat]? = none := by simp; omega
    have hi2 : items2[((i : Nat) : Int).toNat]? = none := by simp; omega
    rw [hi1, hi2]
    wp_walk using wpAny_loadPart' hl1, wpAny_loadPart' hb1
    show R (.ok (.ret (.bool (items.size != items2.size)))) _
    rw [hs1, hs2]
    simpa using hR
  | succ k ih =>
    intro i hk hi hpre s h
    obtain ⟨items, items2, n, n2, hl1, hb1, hs1, hs2, turn⟩ := hl _ _ h
    have hlt : i < items.size := by omega
    have hlt2 : i < items2.size := by omega
    have ht := turn hlt hlt2
    obtain ⟨hp, g, d, tk, os⟩ := s
    wp_walk using wpAny_loadPart' hl1, wpAny_loadPart' hb1
    have hi1 : items[((i : Nat) : Int).toNat]? = some items[i] := by simp [hlt]
    have hi2 : items2[((i : Nat) : Int).toNat]? = some items2[i] := by simp [hlt2]
    have hc : ((i : Int) + 1) = ((i + 1 : Nat) : Int) := by omega
    rw [hi1, hi2]
    refine wpAny_bind (wpAny_mono ht (fun r s2 h2 => ?_) fun _ _ x => x)
    obtain ⟨hr, h2⟩ := h2
    subst hr
    cases he : e i with
    | true =>
      have hrec := ih (i + 1) (by omega) (by omega) (fun j hj => by
        rcases Nat.lt_succ_iff_lt_or_eq.mp hj with hj | hj
        · exact hpre j hj
        · rw [hj]; exact he) s2 h2
      obtain ⟨hp2, g2, d2, tk2, os2⟩ := s2
      wp_walk
      rw [hc]
      exact ⟨plainId_quiet plain_eq_loop _, codeAny_builtin entry_eq_loop (by
        rw [Around.under_plainId plain_eq_loop _]
        exact hrec)⟩
    | false =>
      have hR := fin _ _ h2
      rw [all_false (by omega) he] at hR
      obtain ⟨jtems, jtems2, m, m2, hl3, hb3, hs3, hs4, _⟩ := hl _ _ h2
      obtain ⟨hp2, g2, d2, tk2, os2⟩ := s2
      wp_walk using wpAny_loadPart' hl3, wpAny_loadPart' hb3
      have hi3 : jtems[((i : Nat) : Int).toNat]? = some (jtems[i]'(by omega)) := by simp [show i < jtems.size by omega]
      have hi4 : jtems2[((i : Nat) : Int).toNat]? = some (jtems2[i]'(by omega)) := by simp [show i < jtems2.size by omega]
      rw [hi3, hi4]
      wp_walk
      simpa using hR
theorem list_eqB (l b : Addr) (N : Nat) (e : Nat → Bool) (I : Nat → Shared → Prop) (hl : ListB prog w A (fun e s' => R (.error e) s') l b N e I)
    (fin : ∀ i s, I i s → R (.ok (.ret (.bool ((List.range N).all e)))) s) {s : Shared} (h : I 0 s) :
    wpAny (model prog w) A.in1 (Builtin.«list.__eq__» ⟨[.ref l, .ref b], []⟩) (FinOf prog w A R) (fun e s' => R (.error e) s') s := by
  obtain ⟨items, items2, n, n2, hl1, hb1, hs1, hs2, _⟩ := hl _ _ h
  have hrec := eq_loopB (A := A) (R := R) l b N e I hl fin _ 0 rfl (Nat.zero_le _) (fun _ hj => absurd hj (Nat.not_lt_zero _)) s h
  obtain ⟨hp, g, d, tk, os⟩ := s
  have f3 := AutoSeq1.sub_list_list
  have hne : ¬ (items.size != items2.size) = true := by simp [hs1, hs2]
  wp_walk using wpAny_loadPart' hl1, wpAny_loadPart' hb1
  exact ⟨plainId_quiet plain_eq_loop _, codeAny_builtin entry_eq_loop (by
    rw [Around.under_plainId plain_eq_loop _]
    exact hrec)⟩
theorem list_neB (l b : Addr) (N : Nat) (e : Nat → Bool) (I : Nat → Shared → Prop) (hl : ListB prog w A (fun e s' => R (.error e) s') l b N e I)
    (fin : ∀ i s, I i s → R (.ok (.ret (.bool (!(List.range N).all e)))) s) {s : Shared} (h : I 0 s) :
    wpAny (model prog w) A.in1 (Builtin.«list.__ne__» ⟨[.ref l, .ref b], []⟩) (FinOf prog w A R) (fun e s' => R (.error e) s') s := by
  obtain ⟨items, items2, n, n2, hl1, hb1, hs1, hs2, _⟩ := hl _ _ h
  have hrec := ne_loopB (A := A) (R := R) l b N e I hl fin _ 0 rfl (Nat.zero_le _) (fun _ hj => absurd hj (Nat.not_lt_zero _)) s h
  obtain ⟨hp, g, d, tk, os⟩ := s
  have f3 := AutoSeq1.sub_list_list
  have hne : ¬ (items.size != items2.size) = true := by simp [hs1, hs2]
  wp_walk using wpAny_loadPart' hl1, wpAny_loadPart' hb1
  exact ⟨plainId_quiet plain_eq_loop _, codeAny_builtin entry_eq_loop (by
    rw [Around.under_plainId plain_eq_loop _]
    exact hrec)⟩
theorem list_eqL (l b : Addr) {items items2 : Array Value} {n n2 : Nat} {s : Shared} (hl : s.heap.get? l = some { cls := .type "list", data := .seq items n }) (hb : s.heap.get? b = some { cls := .type "list", data := .seq items2 n2 }) (hs : items.size ≠ items2.size) (h : ∀ tk, R (.ok (.ret (.bool false))) { s with toks := tk }) :
    wpAny (model prog w) A.in1 (Builtin.«list.__eq__» ⟨[.ref l, .ref b], []⟩) (FinOf prog w A R) (fun e s' => R (.error e) s') s := by
  obtain ⟨hp, g, d, tk, os⟩ := s
  have f3 := AutoSeq1.sub_list_list
  have hc0 : (items.size != items2.size) = true := by simp [hs]
  wp_walk using wpAny_loadPart' hl, wpAny_loadPart' hb
  exact h _
theorem list_neL (l b : Addr) {items items2 : Array Value} {n n2 : Nat} {s : Shared} (hl : s.heap.get? l = some { cls := .type "list", data := .seq items n }) (hb : s.heap.get? b = some { cls := .type "list", data := .seq items2 n2 }) (hs : items.size ≠ items2.size) (h : ∀ tk, R (.ok (.ret (.bool true))) { s with toks := tk }) :
    wpAny (model prog w) A.in1 (Builtin.«list.__ne__» ⟨[.ref l, .ref b], []⟩) (FinOf prog w A R) (fun e s' => R (.error e) s') s := by
  obtain ⟨hp, g, d, tk, os⟩ := s
  have f3 := AutoSeq1.sub_list_list
  have hc0 : (items.size != items2.size) = true := by simp [hs]
  wp_walk using wpAny_loadPart' hl, wpAny_loadPart' hb
  exact h _
end
section
variable {prog : Program} {w : World} {A : Around} {E : Value → Shared → Prop} {s : Shared}
theorem rc_listB {l b : Addr} {N : Nat} {e : Nat → Bool} {Q : Value → Shared → Prop} (hu : A.units < cLine) (I : Nat → Shared → Prop) (hl : ListB prog w A E l b N e I)
    (fin : ∀ i s, I i s → Q (.bool ((List.range N).all e)) s) (h : I 0 s) : wpAny (model prog w) A (richCompare .Eq (.ref l) (.ref b)) Q E s := by
  obtain ⟨items, items2, n, n2, hl1, hb1, _, _, _⟩ := hl _ _ h
  refine wpAny_richCompare_same_room (op := .Eq) ⟨_, hl1, rfl⟩ ⟨_, hb1, rfl⟩ F.slot_list_eq (call_here F.slot_list_eq ⟨_, hl1, rfl⟩ F.entry_list_eq (F.args_list_eq_2 _ _) ?_) hu
  exact list_eqB (R := wants (fun v s' => v ≠ .notImplemented ∧ Q v s') E) l b N e I hl (fun i s' q => ⟨(fun x => nomatch x), fin i s' q⟩) h
theorem rcne_listB {l b : Addr} {N : Nat} {e : Nat → Bool} {Q : Value → Shared → Prop} (hu : A.units < cLine) (I : Nat → Shared → Prop) (hl : ListB prog w A E l b N e I)
    (fin : ∀ i s, I i s → Q (.bool (!(List.range N).all e)) s) (h : I 0 s) : wpAny (model prog w) A (richCompare .NotEq (.ref l) (.ref b)) Q E s := by
  obtain ⟨items, items2, n, n2, hl1, hb1, _, _, _⟩ := hl _ _ h
  refine wpAny_richCompare_same_room (op := .NotEq) ⟨_, hl1, rfl⟩ ⟨_, hb1, rfl⟩ F.slot_list_ne (call_here F.slot_list_ne ⟨_, hl1, rfl⟩ F.entry_list_ne (F.args_list_ne_2 _ _) ?_) hu
  exact list_neB (R := wants (fun v s' => v ≠ .notImplemented ∧ Q v s') E) l b N e I hl (fun i s' q => ⟨(fun x => nomatch x), fin i s' q⟩) h
theorem rc_listL {l b : Addr} {items items2 : Array Value} {n n2 : Nat} {Q : Value → Shared → Prop} (hu : A.units < cLine) (hl : s.heap.get? l = some { cls := .type "list", data := .seq items n }) (hb : s.heap.get? b = some { cls := .type "list", data := .seq items2 n2 }) (hs : items.size ≠ items2.size)
    (h : ∀ tk, Q (.bool false) { s with toks := tk }) : wpAny (model prog w) A (richCompare .Eq (.ref l) (.ref b)) Q E s := by
  refine wpAny_richCompare_same_room (op := .Eq) ⟨_, hl, rfl⟩ ⟨_, hb, rfl⟩ F.slot_list_eq (call_here F.slot_list_eq ⟨_, hl, rfl⟩ F.entry_list_eq (F.args_list_eq_2 _ _) ?_) hu
  exact list_eqL (R := wants (fun v s' => v ≠ .notImplemented ∧ Q v s') E) l b hl hb hs fun tk => ⟨(fun x => nomatch x), h tk⟩
theorem rcne_listL {l b : Addr} {items items2 : Array Value} {n n2 : Nat} {Q : Value → Shared → Prop} (hu : A.units < cLine) (hl : s.heap.get? l = some { cls := .type "list", data := .seq items n }) (hb : s.heap.get? b = some { cls := .type "list", data := .seq items2 n2 }) (hs : items.size ≠ items2.size)
    (h : ∀ tk, Q (.bool true) { s with toks := tk }) : wpAny (model prog w) A (richCompare .NotEq (.ref l) (.ref b)) Q E s := by
  refine wpAny_richCompare_same_room (op := .NotEq) ⟨_, hl, rfl⟩ ⟨_, hb, rfl⟩ F.slot_list_ne (call_here F.slot_list_ne ⟨_, hl, rfl⟩ F.entry_list_ne (F.args_list_ne_2 _ _) ?_) hu
  exact list_neL (R := wants (fun v s' => v ≠ .notImplemented ∧ Q v s') E) l b hl hb hs fun tk => ⟨(fun x => nomatch x), h tk⟩
end
end GB
/-! G12: own ==, told of data. -/
namespace GB
open PySem PySem.W
section
variable {prog : Program} {w : World} {A : Around} {E : Value → Shared → Prop} {s : Shared} {K : Frag} {x C f : Addr} {ox : Obj} {od : Option Obj}
theorem none_eq_ref (b : Addr) : Gives (Builtin.«NoneType.__eq__» ⟨[.none, .ref b], []⟩) (.val (Value.notImplemented)) :=
  .of_wp fun M A E s Q h => by obtain ⟨hp, g, d, tk, os⟩ := s; wp_walk; exact ⟨_, rfl, h⟩
/-- None == x, x of a class of the text's own -/
theorem cmp_none {Q : Value → Shared → Prop} (hu : A.units < cLine) (X : K.In s.heap) (I : InstAt s.heap x ox C od) (hm : mroIn K C (.type "NoneType") = some false)
    (hs : findIn K (.ref C) "__eq__" = some (some (.ref f))) (hf : isFn K (.ref f) = true)
    (h : wpAny (model prog w) A (call (.ref f) [.ref x, .none]) (CmpBack Q) E s) : wpAny (model prog w) A (richCompare .Eq .none (.ref x)) Q E s := by
  have one : wpAny (model prog w) A (tryCompare (.ref x) "__eq__" .none) (fun r s' => ∃ v, r = some v ∧ Q v s') E s := by
    unfold tryCompare
    refine wpAny_bind (ifBound_K X I hs hf (wpAny_mono h (fun v s' hv => ?_) fun _ _ e => e))
    cases v <;> first | exact hv.elim | exact wpAny_pure ⟨_, rfl, hv⟩
  have hT : s.TypeIs .none "NoneType" := rfl
  unfold richCompare
  simp only [hT.oneThing_none]
  refine wpAny_holding (wpAny_bind (wpAny_cRoomFor hu ?_))
  refine wpAny_bind (wpAny_typeOf hT (wpAny_bind (I.type.here ?_)))
  have hne : (Value.type "NoneType" != Value.ref C) = true := rfl
  simp only [hne, if_true]
  refine wpAny_bind ((looks_subIn (t := .ref C) (base := .type "NoneType") X hm).here ?_)
  simp only [Bool.false_eq_true, if_false]
  refine wpAny_bind (wpAny_tryCompare_declines (T := "NoneType") hT F.slot_NoneType_eq (call_gives F.slot_NoneType_eq hT F.entry_NoneType_eq (F.args_NoneType_eq_2 _ _) (none_eq_ref x) ⟨rfl, ?_⟩))
  simp only [Bool.not_false, if_true]
  refine wpAny_bind (wpAny_mono one (fun r s' z => ?_) fun _ _ e => e)
  obtain ⟨v, rfl, hq⟩ := z
  exact wpAny_pure hq
end
end GB
namespace G
open PySem PySem.Spec PyProof.Rows L2
/-- what isinstance asks of a class -/
structure InsF (K : PySem.W.Frag) (C : Addr) : Prop where
  cls : Cls K C
  kc : ((PySem.W.clsIn K C).isSome && PySem.W.typeIn K (.ref C) == some (.type "type")) = true
  ha : PySem.W.findIn K (.ref C) "__class__" = some (some (.builtin "object.__class__"))
  hn : PySem.W.specialIn K (.builtin "object.__class__") "__get__" = some (some (.builtin "getset_descriptor.__get__"))
  htk : PySem.W.takesIn K (.builtin "object.__class__") = some true
  hm : PySem.W.mroIn K C (.type "object") = some true
  nn : PySem.W.mroIn K C (.type "NoneType") = some false
/-- no instance of the class at C -/
def NotC (K : PySem.W.Frag) (C : Addr) (v : V) (B : Hp) : Prop := ∃ t, (∀ H, Same B H → TyX K H v t) ∧ PySem.W.kitOne K t (.ref C) = some false ∧ PySem.W.notFirst K C t = true
/-- an instance (some), or something else -/
def tAlt {α : Type} (K : PySem.W.Frag) (C : Addr) (τ : Ty α) : Ty (Option α) where
  rel := fun o v B => match o with
    | some x => τ.rel x v B
    | none => NotC K C v B
  mono := fun o v B B' h r => by
    cases o with
    | some x => exact τ.mono x v B B' h r
    | none => obtain ⟨t, h1, h2⟩ := r; exact ⟨t, fun H hs => h1 H (h.trans hs), h2⟩
def IsObj {α : Type} (τ : Ty α) (C : Addr) : Prop := ∀ x v B, τ.rel x v B → ∃ a dx fs, v = .ref a ∧ B a = some (.ins C dx fs)
theorem isObj {α : Type} {C : Addr} {names : List Str} {sf : α → List Slot} : IsObj (tObj C names sf) C := fun x v B ⟨a, dx, vs, e, s, _, _⟩ => ⟨a, dx, _, e, s⟩
/-- each value tells one thing alone -/
class Inj {α : Type} (τ : Ty α) : Prop where
  inj : ∀ x y v B, τ.rel x v B → τ.rel y v B → x = y
def Rf {α : Type} (τ : Ty α) : Prop := ∀ x v B, τ.rel x v B → ∃ a, v = V.ref a
theorem IsObj.rf {α : Type} {τ : Ty α} {C : Addr} (h : IsObj τ C) : Rf τ := fun x v B r => let ⟨a, _, _, e, _⟩ := h x v B r; ⟨a, e⟩
section
variable {X : Cx} {α β : Type} {n : Nat} {τ : Ty α}
def Aft (X : Cx) (pins : List (Addr × Obj)) (σ : L2.St) (B H : Hp) (s' : Shared) : Prop := ∃ H', Inv X pins σ H' s' ∧ Gr B H B H'
def RcB [DecidableEq α] (X : Cx) (n : Nat) (τ : Ty α) : Prop := ∀ (A : Around) (pins : List (Addr × Obj)) (s : Shared) (σ : L2.St) (B H : Hp) (x y : α) (v w : V) (u t : Value), L2.Sub X n A → Inv X pins σ H s → Same B H → τ.rel x v B → τ.rel y w B → RelV v u → RelV w t →
  wpAny (model X.prog X.w) A (richCompare .Eq u t) (fun r s' => r = .bool (decide (x = y)) ∧ Aft X pins σ B H s') X.xe s
def EqB [DecidableEq α] (X : Cx) (n : Nat) (τ : Ty α) : Prop := ∀ (A : Around) (pins : List (Addr × Obj)) (s : Shared) (σ : L2.St) (B H : Hp) (x y : α) (v w : V) (u t : Value), L2.Sub X n A → Inv X pins σ H s → Same B H → τ.rel x v B → τ.rel y w B → RelV v u → RelV w t →
  wpAny (model X.prog X.w) A (eqBool u t) (fun r s' => r = decide (x = y) ∧ Aft X pins σ B H s') X.xe s
theorem RcB.eqB [DecidableEq α] [Inj τ] (h : RcB X n τ) (hr : Rf τ) : EqB X n τ := by
  intro A pins s σ B H x y v w u t sb I sB rx ry ru rt
  obtain ⟨a, rfl⟩ := hr x v B rx
  obtain ⟨b, rfl⟩ := hr y w B ry
  cases ru
  cases rt
  by_cases hab : a = b
  · subst hab
    have e : x = y := Inj.inj x y _ B rx ry
    exact SeqAt.EqAt.same (A := A) (s := s) (.ref a) X.prog X.w X.xe _ ⟨(decide_eq_true e).symm, H, I, Gr.refl sB⟩
  · refine GQ.eqBool_refG hab (wpAny_mono (h A pins s σ B H x y (.ref a) (.ref b) _ _ sb I sB rx ry rfl rfl) (fun r s' q => ?_) fun _ _ x => x)
    obtain ⟨hr', q⟩ := q
    exact ⟨_, hr', rfl, q⟩
theorem gr_self {B H B' H' : Hp} (g : Gr B H B' H') (h : Same B H) : Gr B H B H' := ⟨Same.refl _, g.hh, h.trans g.hh, fun _ _ _ n => n⟩
/-- the own __eq__ is called -/
theorem insCall {C : Addr} {k : Nat} {fm : α × Option α → Option Bool} {f : Addr} {fd : FuncData} {ps : List Str} (F : FnOk X.prog X.w X.K X.mg X.base CX0 k f fd ps (spF (tCons τ (tOne (tAlt X.K C τ))) fm tBool)) (bi : Binds X.K fd ps []) {A : Around} {pins : List (Addr × Obj)} {s : Shared} {σ : L2.St} {B H : Hp} {x : α} {o : Option α} {a : Addr} {w : V} {t : Value} {b : Bool}
    (sb : L2.Sub X k A) (I : Inv X pins σ H s) (sB : Same B H) (rx : τ.rel x (.ref a) B) (ry : (tAlt X.K C τ).rel o w B) (rt : RelV w t) (hf : fm (x, o) = some b) :
    wpAny (model X.prog X.w) A (call (.ref f) [.ref a, t]) (PySem.W.CmpBack fun r s' => r = .bool b ∧ Aft X pins σ B H s') X.xe s := by
  have hsp : spF (tCons τ (tOne (tAlt X.K C τ))) fm tBool [.ref a, w] H (fun v H' => v = .bl b ∧ Gr B H B H') (fun _ _ _ => False) :=
    ⟨B, (x, o), b, sB, ⟨.ref a, [w], rfl, rx, w, rfl, ry⟩, hf, fun v' B' H' g r => ⟨r, gr_self g sB⟩⟩
  have e0 : Env0 X.prog X.w X.K X.mg X.base A X.stack s H := by
    have e := I.env0
    exact ⟨by rw [sb.fr]; exact e.frames, e.mod, e.bs, e.bsz, e.funs, e.frf, e.hok, e.bare⟩
  have hl := F.len _ _ _ _ hsp
  have r2 : Vals [V.ref a, w] [Value.ref a, t] := .cons rfl (.cons rt .nil)
  refine wpAny_call (codeAny_mono (F.run A X.stack s H ⟨[.ref a, t], []⟩ [.ref a, t] [.ref a, w] _ _ sb.room e0 (by
    have := bi s [.ref a, t] I.kIn (by simpa using hl)
    simpa using this) r2 hsp) fun r s' hq => ?_)
  cases r with
  | error e => exact pass0 pins σ H s e s' I hq
  | ok fl =>
    cases fl with
    | ret z =>
      obtain ⟨y, H', I', rz, ez, ex⟩ := I.after hq
      subst ez
      cases rz
      exact ⟨rfl, H', I', ex⟩
    | next => exact False.elim hq
    | brk => exact False.elim hq
    | cont => exact False.elim hq
/-- x == o, x an instance -/
theorem insCmp {C : Addr} {k : Nat} {fm : α × Option α → Option Bool} (D : Mth X.prog X.w X.K X.mg X.base C "__eq__" k [] (spF (tCons τ (tOne (tAlt X.K C τ))) fm tBool)) (hi : IsObj τ C) {A : Around} {pins : List (Addr × Obj)} {s : Shared} {σ : L2.St} {B H : Hp} {x : α} {o : Option α} {v w : V} {u t tb : Value} {b : Bool}
    (sb : L2.Sub X k A) (I : Inv X pins σ H s) (sB : Same B H) (rx : τ.rel x v B) (ry : (tAlt X.K C τ).rel o w B) (ru : RelV v u) (rt : RelV w t) (hb : PySem.W.Looks (model X.prog X.w) s.heap (typeOf t) tb) (hn : PySem.W.notFirst X.K C tb = true) (hf : fm (x, o) = some b) :
    wpAny (model X.prog X.w) A (richCompare .Eq u t) (fun r s' => r = .bool b ∧ Aft X pins σ B H s') X.xe s := by
  obtain ⟨f, fd, ps, dv, hc, me, bi, vd, F⟩ := D
  cases vd
  obtain ⟨a, dx, fs, rfl, ha⟩ := hi x v B rx
  cases ru
  obtain ⟨mA, J, _⟩ := ins_get I.hok (sB _ _ ha)
  obtain ⟨od, J, _⟩ := J.look
  obtain ⟨m, hF⟩ := I.fr
  exact PySem.W.cmp_K (op := .Eq) (tb := tb) sb.room.units0 hF I.ok.mod.kin J hb hn me.at_ me.fn (insCall F bi sb I sB rx ry rt hf)
/-- x == w, w no instance of x's class -/
theorem insNot {C : Addr} {k : Nat} {fm : α × Option α → Option Bool} (D : Mth X.prog X.w X.K X.mg X.base C "__eq__" k [] (spF (tCons τ (tOne (tAlt X.K C τ))) fm tBool)) (hi : IsObj τ C) (hfn : ∀ x, fm (x, none) = some false) {A : Around} {pins : List (Addr × Obj)} {s : Shared} {σ : L2.St} {B H : Hp} {x : α} {v w : V} {u t : Value}
    (sb : L2.Sub X k A) (I : Inv X pins σ H s) (sB : Same B H) (rx : τ.rel x v B) (ry : NotC X.K C w B) (ru : RelV v u) (rt : RelV w t) :
    wpAny (model X.prog X.w) A (richCompare .Eq u t) (fun r s' => r = .bool false ∧ Aft X pins σ B H s') X.xe s := by
  obtain ⟨ty, h1, h2, h3⟩ := id ry
  obtain ⟨P, Z, p, _⟩ := kit_of I rt (h1 H sB)
  exact insCmp D hi (o := none) sb I sB rx ry ru rt (Z.ty _ s.heap I.kIn p) h3 (hfn x)
theorem rcB_ins [DecidableEq α] {C : Addr} {k : Nat} {fm : α × Option α → Option Bool} (D : Mth X.prog X.w X.K X.mg X.base C "__eq__" k [] (spF (tCons τ (tOne (tAlt X.K C τ))) fm tBool)) (hi : IsObj τ C) (hfm : ∀ x y, fm (x, some y) = some (decide (x = y))) : RcB X k τ := by
  intro A pins s σ B H x y v w u t sb I sB rx ry ru rt
  obtain ⟨b, dy, gs, rfl, hb⟩ := hi y w B ry
  cases rt
  obtain ⟨mB, J', _⟩ := ins_get I.hok (sB _ _ hb)
  obtain ⟨od', J', _⟩ := J'.look
  exact insCmp D hi (o := some y) sb I sB rx ry ru rfl J'.type (by simp [PySem.W.notFirst]) (hfm x y)
theorem RcB.mono [DecidableEq α] {m : Nat} (h : RcB X n τ) (hn : n ≤ m) : RcB X m τ := fun A pins s σ B H x y v w u t sb => h A pins s σ B H x y v w u t (sb.mono hn)
/-- lists -/
theorem listB_of [DecidableEq α] (h : EqB X n τ) {A : Around} (sb : L2.Sub X (n + 1) A) {pins : List (Addr × Obj)} {σ : L2.St} {B H : Hp} {a b : Addr} {xs ys : List α} {vs ws : List V} (sB : Same B H) (ha : B a = some (.lst vs)) (hb : B b = some (.lst ws)) (pv : Paired (fun x u => τ.rel x u B) xs vs) (pw : Paired (fun x u => τ.rel x u B) ys ws) (hl : xs.length = ys.length) :
    GB.ListB X.prog X.w A X.xe a b xs.length (fun i => decide (xs[i]? = ys[i]?)) (fun _ s' => Aft X pins σ B H s') := by
  intro i s' q
  obtain ⟨H1, I1, g1⟩ := q
  obtain ⟨z, its, k, r, e⟩ := I1.hok a _ (g1.hh _ _ (sB _ _ ha))
  obtain ⟨z2, its2, k2, r2, e2⟩ := I1.hok b _ (g1.hh _ _ (sB _ _ hb))
  have l1 := paired_len pv
  have l2 := paired_len pw
  have l3 := r.length
  have l4 := r2.length
  refine ⟨its.toArray, its2.toArray, k, k2, e, e2, by rw [List.size_toArray]; omega, by rw [List.size_toArray]; omega, fun h1 h2 => ?_⟩
  have h1' : i < its.length := by simpa using h1
  have h2' : i < its2.length := by simpa using h2
  have k1 : i < vs.length := by omega
  have k2 : i < ws.length := by omega
  have hx : xs[i]? = some (xs[i]'(by omega)) := List.getElem?_eq_getElem (by omega)
  have hy : ys[i]? = some (ys[i]'(by omega)) := List.getElem?_eq_getElem (by omega)
  obtain ⟨v, hv, rv⟩ := paired_at pv hx
  obtain ⟨w, hw, rw'⟩ := paired_at pw hy
  obtain ⟨u, hu, ru⟩ := r.get hv
  obtain ⟨t, ht, rt⟩ := r2.get hw
  have g3 : its[i]? = some its.toArray[i] := by rw [List.getElem?_eq_getElem h1'] <;> simp
  have g4 : its2[i]? = some its2.toArray[i] := by rw [List.getElem?_eq_getElem h2'] <;> simp
  rw [g3] at hu
  rw [g4] at ht
  rw [Option.some.inj hu, Option.some.inj ht]
  refine wpAny_mono (h A.in1 pins s' σ B H1 _ _ v w u t sb.in1 I1 (sB.trans g1.hh) rv rw' ru rt) (fun r s2 q => ?_) fun _ _ x => x
  obtain ⟨hr, H2, I2, g2⟩ := q
  refine ⟨?_, H2, I2, g1.trans g2⟩
  show r = decide (xs[i]? = ys[i]?)
  rw [hr, hx, hy]
  exact decide_eq_decide.mpr ⟨fun e => by rw [e], fun e => Option.some.inj e⟩
theorem all_dec [DecidableEq α] {xs ys : List α} (hl : xs.length = ys.length) : (List.range xs.length).all (fun i => decide (xs[i]? = ys[i]?)) = decide (xs = ys) := by
  by_cases h : xs = ys
  · subst h
    rw [decide_eq_true rfl]
    exact List.all_eq_true.mpr fun i _ => decide_eq_true rfl
  · rw [decide_eq_false h]
    cases q : (List.range xs.length).all (fun i => decide (xs[i]? = ys[i]?)) with
    | false => rfl
    | true =>
      refine absurd (List.ext_getElem? fun i => ?_) h
      by_cases hi : i < xs.length
      · exact of_decide_eq_true (List.all_eq_true.mp q i (List.mem_range.mpr hi))
      · rw [List.getElem?_eq_none (by omega), List.getElem?_eq_none (by omega)]
theorem rcB_list [DecidableEq α] (h : EqB X n τ) : RcB X (n + 1) (tList X.K τ) := by
  intro A pins s σ B H xs ys v w u t sb I sB rx ry ru rt
  obtain ⟨a, vs, rfl, ha, pv⟩ := rx
  obtain ⟨b, ws, rfl, hb, pw⟩ := ry
  cases ru
  cases rt
  by_cases hl : xs.length = ys.length
  · refine GB.rc_listB sb.room.units0 (fun _ s' => Aft X pins σ B H s') (listB_of h sb sB ha hb pv pw hl) (fun i s' q => ⟨by rw [all_dec hl], q⟩) ⟨H, I, Gr.refl sB⟩
  · obtain ⟨z, its, k, r, e⟩ := I.hok a _ (sB _ _ ha)
    obtain ⟨z2, its2, k2, r2, e2⟩ := I.hok b _ (sB _ _ hb)
    have l1 := paired_len pv
    have l2 := paired_len pw
    have l3 := r.length
    have l4 := r2.length
    refine GB.rc_listL sb.room.units0 e e2 (by rw [List.size_toArray, List.size_toArray]; omega) fun tk => ⟨?_, H, I.tok tk, Gr.refl sB⟩
    rw [decide_eq_false (fun e => hl (by rw [e]))]
/-- as operators -/
theorem oc_eqR [DecidableEq α] (h : RcB X n τ) (hr : Room n X.A) : OpT X (compareOp .Eq) τ τ tBool (fun x y => some (decide (x = y))) := by
  intro x y z hz pins s σ v w u t B H Q I sb ra rb ru rt q
  cases hz
  show wpAny (model X.prog X.w) X.A (richCompare .Eq u t) (EP X pins σ Q) X.xe s
  refine wpAny_mono (h X.A pins s σ B H x y v w u t ⟨hr, rfl⟩ I sb ra rb ru rt) (fun r s' z => ?_) fun _ _ x => x
  obtain ⟨hr', H', I', g⟩ := z
  subst hr'
  exact ⟨.bl _, H', I', rfl, q _ B H' g rfl⟩
theorem oc_neL [DecidableEq α] (h : EqB X n τ) (hr : Room (n + 1) X.A) : OpT X (compareOp .NotEq) (tList X.K τ) (tList X.K τ) tBool (fun x y => some (!decide (x = y))) := by
  intro xs ys z hz pins s σ v w u t B H Q I sB rx ry ru rt q
  cases hz
  show wpAny (model X.prog X.w) X.A (richCompare .NotEq u t) (EP X pins σ Q) X.xe s
  obtain ⟨a, vs, rfl, ha, pv⟩ := rx
  obtain ⟨b, ws, rfl, hb, pw⟩ := ry
  cases ru
  cases rt
  have sb : L2.Sub X (n + 1) X.A := ⟨hr, rfl⟩
  by_cases hl : xs.length = ys.length
  · refine GB.rcne_listB sb.room.units0 (fun _ s' => Aft X pins σ B H s') (listB_of h sb sB ha hb pv pw hl) (fun i s' qq => ?_) ⟨H, I, Gr.refl sB⟩
    obtain ⟨H', I', g⟩ := qq
    rw [all_dec hl]
    exact ⟨.bl _, H', I', rfl, q _ B H' g rfl⟩
  · obtain ⟨z, its, k, r, e⟩ := I.hok a _ (sB _ _ ha)
    obtain ⟨z2, its2, k2, r2, e2⟩ := I.hok b _ (sB _ _ hb)
    have l1 := paired_len pv
    have l2 := paired_len pw
    have l3 := r.length
    have l4 := r2.length
    refine GB.rcne_listL sb.room.units0 e e2 (by rw [List.size_toArray, List.size_toArray]; omega) fun tk => ⟨.bl true, H, I.tok tk, rfl, ?_⟩
    exact q _ B H (Gr.refl sB) (by show V.bl true = V.bl _; rw [decide_eq_false (fun e => hl (by rw [e]))]; rfl)
/-- == of an instance and something else -/
theorem oc_eqN {τ' : Ty β} {C : Addr} {k : Nat} {fm : α × Option α → Option Bool} (D : Mth X.prog X.w X.K X.mg X.base C "__eq__" k [] (spF (tCons τ (tOne (tAlt X.K C τ))) fm tBool)) (hi : IsObj τ C) (hfn : ∀ x, fm (x, none) = some false) (hn : ∀ y w B, τ'.rel y w B → NotC X.K C w B) (hr : Room k X.A) : OpT X (compareOp .Eq) τ τ' tBool (fun _ _ => some false) := by
  intro x y z hz pins s σ v w u t B H Q I sb ra rb ru rt q
  cases hz
  show wpAny (model X.prog X.w) X.A (richCompare .Eq u t) (EP X pins σ Q) X.xe s
  refine wpAny_mono (insNot D hi hfn ⟨hr, rfl⟩ I sb ra (hn y w B rb) ru rt) (fun r s' z => ?_) fun _ _ x => x
  obtain ⟨hr', H', I', g⟩ := z
  subst hr'
  exact ⟨.bl false, H', I', rfl, q _ B H' g rfl⟩
theorem kit_no {K : PySem.W.Frag} {C : Addr} {T : String} (F : InsF K C) (hs : (PySem.fastBuiltinMro T).map (·.contains (.ref C)) = some false) : PySem.W.kitOne K (.type T) (.ref C) = some false ∧ PySem.W.notFirst K C (.type T) = true := by
  refine ⟨?_, ?_⟩
  · have e : (Value.type T == Value.ref C) = false := rfl
    unfold PySem.W.kitOne PySem.W.kitCls
    rw [if_neg (by rw [e]; decide)]
    show (if _ then PySem.W.subIn K (.type T) (.ref C) else none) = _
    rw [if_pos F.kc]
    exact hs
  · have e : (Value.type T == Value.ref C) = false := rfl
    have e2 : PySem.W.subIn K (.type T) (.ref C) = some false := hs
    unfold PySem.W.notFirst
    rw [e, e2]
    rfl
theorem notC_of {K : PySem.W.Frag} {C : Addr} {T : String} {v : V} {B : Hp} (F : InsF K C) (h : ∀ H, Same B H → TyX K H v (.type T)) (hs : (PySem.fastBuiltinMro T).map (·.contains (.ref C)) = some false) : NotC K C v B := ⟨_, h, (kit_no F hs).1, (kit_no F hs).2⟩
theorem notC_non {K : PySem.W.Frag} {C : Addr} {B : Hp} (F : InsF K C) : NotC K C .non B := notC_of (T := "NoneType") F (fun _ _ => .base .non) rfl
theorem notC_list {K : PySem.W.Frag} {C : Addr} {β : Type} {τ' : Ty β} (F : InsF K C) : ∀ y w B, (tList K τ').rel y w B → NotC K C w B := fun y w B ⟨a, vs, e, s, _⟩ => notC_of (T := "list") F (fun H hs => by rw [e]; exact .base (.lst (hs _ _ s))) rfl
theorem notC_int {K : PySem.W.Frag} {C : Addr} (F : InsF K C) : ∀ y w B, tInt.rel y w B → NotC K C w B := fun y w B e => notC_of (T := "int") F (fun H hs => by rw [show w = .int y from e]; exact .base (.int y)) rfl
theorem rcB_optI [DecidableEq α] {C : Addr} {k : Nat} {fm : α × Option α → Option Bool} (D : Mth X.prog X.w X.K X.mg X.base C "__eq__" k [] (spF (tCons τ (tOne (tAlt X.K C τ))) fm tBool)) (hi : IsObj τ C) (F : InsF X.K C) (hfm : ∀ x y, fm (x, some y) = some (decide (x = y))) (hfn : ∀ x, fm (x, none) = some false) : RcB X k (tOpt τ) := by
  intro A pins s σ B H x y v w u t sb I sB rx ry ru rt
  cases x with
  | none =>
    cases (show v = V.non from rx)
    cases (show u = Value.none from ru)
    cases y with
    | none =>
      cases (show w = V.non from ry)
      cases (show t = Value.none from rt)
      exact richCompare_gives (T := "NoneType") rfl rfl PySem.F.slot_NoneType_eq PySem.F.entry_NoneType_eq (PySem.F.args_NoneType_eq_2 _ _) EqNone.NoneType___eq___none_none_0 nofun ⟨rfl, H, I, Gr.refl sB⟩
    | some y =>
      obtain ⟨_, ry⟩ := (show _ ∧ τ.rel y w B from ry)
      obtain ⟨f, fd, ps, dv, hc, me, bi, vd, FF⟩ := D
      cases vd
      obtain ⟨b, dy, gs, rfl, hb⟩ := hi y w B ry
      cases rt
      obtain ⟨mB, J, _⟩ := ins_get I.hok (sB _ _ hb)
      obtain ⟨od, J, _⟩ := J.look
      exact GB.cmp_none sb.room.units0 I.kIn J F.nn me.at_ me.fn (insCall FF bi sb I sB ry (o := none) (w := .non) (notC_non F) rfl (hfn y))
  | some x =>
    obtain ⟨_, rx⟩ := (show _ ∧ τ.rel x v B from rx)
    cases y with
    | none =>
      cases (show w = V.non from ry)
      exact insNot D hi hfn sb I sB rx (notC_non F) ru rt
    | some y =>
      obtain ⟨_, ry⟩ := (show _ ∧ τ.rel y w B from ry)
      have := rcB_ins D hi hfm A pins s σ B H x y v w u t sb I sB rx ry ru rt
      have e : decide (some x = some y) = decide (x = y) := decide_eq_decide.mpr ⟨fun e => Option.some.inj e, fun e => by rw [e]⟩
      rw [e]
      exact this
end
/-! isinstance -/
section
variable {X : Cx} {Γ : List Slot} {o : Expr} {pos p p2 : Pos} {α : Type} {τ : Ty α}
theorem ev_isi {C : Addr} {cn : Str} {m : Option (Option α)} (F : InsF X.K C) (hi : IsObj τ C) (hm : X.mg cn = some (.ref C)) (hg : Gl X "isinstance") (hf : X.mg "isinstance" = none) (hgc : Gl X cn) (ho : EVm X o Γ m (tAlt X.K C τ)) (hd : (cn == ("__debug__" : Str)) = false := by decide)
    (he : starEach [o, .Name cn p2] X.env = (false, eval o X.env) :: starEach [.Name cn p2] X.env := by rfl) (he2 : starEach [.Name cn p2] X.env = (false, eval (.Name cn p2) X.env) :: starEach [] X.env := by rfl) (hpl : (backTo pos (starEach [.Name cn p2] X.env)).any (·.1) = false := by rfl) :
    EVm X (.Call (.Name "isinstance" p) [o, .Name cn p2] [] pos) Γ (o1 Option.isSome m) tBool := fun z hz B M σ H Q i ok q => by
  obtain ⟨x, h1, rfl⟩ := o1_of hz
  refine wE_of (pe_callB call_isi hg hf (by decide +kernel) (pa_cons peW (pa_cons (pe_glob (v := .ref C) hgc hm rfl hd) pa_nil he2) he) (by decide) (by decide) he hpl) (ho x h1 B M σ H _ i ok fun v B1 H1 g1 r1 => ?_)
  cases x with
  | none =>
    obtain ⟨t, k1, k2, _⟩ := r1
    exact ⟨v, .ref C, t, .ref C, false, rfl, .own C, k1 H1 g1.bh, k2, q _ B1 H1 g1 rfl⟩
  | some x =>
    obtain ⟨a, dx, fs, e, ha⟩ := hi x v B1 r1
    refine ⟨v, .ref C, .ref C, .ref C, true, rfl, .own C, ?_, ?_, q _ B1 H1 g1 rfl⟩
    · rw [e]; exact .base (.ins (g1.bh _ _ ha) F.cls F.ha F.hn F.htk F.hm)
    · unfold PySem.W.kitOne; rw [if_pos (beq_self_eq_true _)]
/-- where it is known to be an instance -/
theorem ev_getA {C : Addr} {e : Expr} {m : Option (Option α)} (h : EVm X e Γ m (tAlt X.K C τ)) : EVm X e Γ (m.bind fun z => z) τ := fun x hx B M σ H Q i ok q => by
  obtain ⟨z, h1, h2⟩ := bind_of hx
  subst h2
  exact h _ h1 B M σ H Q i ok fun v B' H' g r => q v B' H' g r
end
/-! Inj -/
section
variable {α β : Type} {K : PySem.W.Frag}
instance : Inj tInt := ⟨fun x y v B h1 h2 => by cases (show v = _ from h1); exact V.int.inj (show V.int x = V.int y from h2)⟩
instance : Inj tBool := ⟨fun x y v B h1 h2 => by cases (show v = _ from h1); exact V.bl.inj (show V.bl x = V.bl y from h2)⟩
instance : Inj tStr := ⟨fun x y v B h1 h2 => by cases (show v = _ from h1); exact V.str.inj (show V.str x = V.str y from h2)⟩
instance : Inj tNone := ⟨fun _ _ _ _ _ _ => rfl⟩
instance {τ : Ty α} [Inj τ] : Inj (tOpt τ) := ⟨fun x y v B h1 h2 => by
  cases x with
  | none =>
    cases y with
    | none => rfl
    | some y => exact absurd (show v = .non from h1) (show _ ∧ τ.rel y v B from h2).1
  | some x =>
    cases y with
    | none => exact absurd (show v = .non from h2) (show _ ∧ τ.rel x v B from h1).1
    | some y => rw [Inj.inj x y v B (show _ ∧ τ.rel x v B from h1).2 (show _ ∧ τ.rel y v B from h2).2]⟩
theorem inj_paired {τ : Ty α} [Inj τ] {B : Hp} : ∀ {xs ys : List α} {vs : List V}, Paired (fun x u => τ.rel x u B) xs vs → Paired (fun x u => τ.rel x u B) ys vs → xs = ys
  | _, _, _, .nil, .nil => rfl
  | _, _, _, .cons a t, .cons b u => by rw [Inj.inj _ _ _ _ a b, inj_paired t u]
instance {τ : Ty α} [Inj τ] : Inj (tList K τ) := ⟨fun x y v B ⟨a, vs, e, s, p⟩ ⟨b, ws, e2, s2, p2⟩ => by
  subst e; cases e2
  rw [s] at s2
  cases s2
  exact inj_paired p p2⟩
theorem inj_fld {τ : Ty α} [Inj τ] {Γ Γ' : List Slot} {σ : L2.St} {B M M' : Hp} {i : Nat} {a b : α} (h1 : sl Γ i = .val (τ.P a)) (h2 : sl Γ' i = .val (τ.P b)) (k1 : OkS Γ σ B M) (k2 : OkS Γ' σ B M') : a = b := by
  obtain ⟨v, e1, r1⟩ := k1.val h1
  obtain ⟨w, e2, r2⟩ := k2.val h2
  rw [e1] at e2
  cases e2
  exact Inj.inj a b v B r1 r2
theorem zip_inj {names : List Str} : ∀ {vs ws : List V}, names.length = vs.length → names.length = ws.length → names.zip vs = names.zip ws → vs = ws := by
  induction names with
  | nil => intro vs ws h1 h2 _; rw [List.length_eq_zero_iff.mp h1.symm, List.length_eq_zero_iff.mp h2.symm]
  | cons n ns ih =>
    intro vs ws h1 h2 e
    cases vs with
    | nil => cases h1
    | cons v vs =>
      cases ws with
      | nil => cases h2
      | cons w ws =>
        rw [List.zip_cons_cons, List.zip_cons_cons] at e
        injection e with e1 e2
        injection e1 with _ e1
        rw [e1, ih (by simpa using h1) (by simpa using h2) e2]
theorem inj_obj {C : Addr} {names : List Str} {sf : α → List Slot} (h : ∀ x y σ B M M', OkS (sf x) σ B M → OkS (sf y) σ B M' → x = y) : Inj (tObj C names sf) := ⟨fun x y v B ⟨a, dx, vs, e, s, l, k⟩ ⟨b, dy, ws, e2, s2, l2, k2⟩ => by
  subst e; cases e2
  rw [s] at s2
  injection s2 with s2
  injection s2 with _ _ s2
  cases zip_inj l l2 s2
  exact h x y _ B _ _ k k2⟩
end
/-! the head's hook, with what isinstance asks -/
def insB (K : PySem.W.Frag) (C : Addr) : Bool := He.eqO (PySem.W.findIn K (.ref C) "__class__") (some (some (.builtin "object.__class__"))) && (He.eqO (PySem.W.specialIn K (.builtin "object.__class__") "__get__") (some (some (.builtin "getset_descriptor.__get__"))) &&
  (decide (PySem.W.takesIn K (.builtin "object.__class__") = some true) && (decide (PySem.W.mroIn K C (.type "object") = some true) && (decide (PySem.W.mroIn K C (.type "NoneType") = some false) && ((PySem.W.clsIn K C).isSome && PySem.W.typeIn K (.ref C) == some (.type "type"))))))
theorem insB_ok {K : PySem.W.Frag} {C : Addr} (c : Cls K C) (h : insB K C = true) : InsF K C := by
  unfold insB at h
  obtain ⟨h1, h⟩ := He.ba h
  obtain ⟨h2, h⟩ := He.ba h
  obtain ⟨h3, h⟩ := He.ba h
  obtain ⟨h4, h⟩ := He.ba h
  obtain ⟨h5, h6⟩ := He.ba h
  exact ⟨c, h6, He.eqO_ok h1, He.eqO_ok h2, of_decide_eq_true h3, of_decide_eq_true h4, of_decide_eq_true h5⟩
def exB (xs : List Str) (K : PySem.W.Frag) : Bool := xs.all fun x => insB K (He.ga K x)
def obsE (n : Nat) (fa : List He.Fa) (fn : List He.DefD) (xs : List Str) (g : Addr → Option Obj) : He.AlD × Bool := (He.obsDG n fa fn g, exB xs (He.frG g (He.asD g n)))
def hookE (n : Nat) (fa : List He.Fa) (fn : List He.DefD) (xs : List Str) : PySem.W.Hook where
  α := He.AlD × Bool
  obs := fun s => obsE n fa fn xs s.heap.get?
  val := fun _ => (He.valD fn, true)
  says := fun _ h => ∃ K : PySem.W.Frag, K.In h ∧ He.SaysD fa fn K ∧ exB xs K = true
  of := fun _ _ e => ⟨_, He.frG_in, congrArg (fun z : He.AlD × Bool => z.1) e, congrArg (fun z : He.AlD × Bool => z.2) e⟩
  keeps := fun _ _ _ ⟨K, hK, c⟩ k => ⟨K, PySem.W.Frag.In.keeps hK k, c⟩
theorem obsE_eq {n : Nat} {fa : List He.Fa} {fn : List He.DefD} {xs : List Str} {g : Addr → Option Obj} {s : Shared} (h : ∀ a, g a = s.heap.get? a) : obsE n fa fn xs g = (hookE n fa fn xs).obs s := by
  have e : g = s.heap.get? := funext h
  rw [e] <;> rfl
end G
/-! G13: comprehensions of owned things, tests that change, calls with an owned argument at any place. -/
namespace G
open PySem PySem.Spec PyProof.Rows L2
section
variable {X : Cx} {Γ Γ' : List Slot} {e a b c tg iter elt o : Expr} {es ifs : List Expr} {ia ib : List Stmt} {pos p apos py spos : Pos} {nm : Str} {α β γ δ ρ S : Type} {rest : List Stmt} {O : Type} {J : O → Oc}
/-- a comprehension of owned things -/
theorem lc_runO {χ : β → MO} {scope : Scope} {own : List (Str × Nat)} {m : Option (List α)} {τ : Ty α} {up : List Slot → α → List Slot} {is : List Nat} {ft : α → Option Bool} {fe : α → Option β} {τe : Ty β} (hfr : ∀ x, (χ x).fr = τe.P x) (hi : PIm X tg iter Γ m τ) (hg : PGc X scope tg τ up is) (his : ∀ i ∈ is, i ∈ own.map (·.2))
    (ht : ∃ t : TT, (∀ s H C cl fp, PTs (Blk X scope s H C cl fp) ifs t) ∧ ∀ x b, ft x = some b → ∀ B M σ H (Q : Bool → Hp → Prop), In B M H → OkS (up (wipeS Γ (own.map (·.2))) x) σ B M → (∀ B' H', Gr B H B' H' → Q b H') → t σ H Q)
    (he : ∀ s H C cl fp, ∀ x, EOm (Blk X scope s H C cl fp) elt (up (wipeS Γ (own.map (·.2))) x) (fe x) χ) :
    ∃ wi g tt, PI X tg iter wi ∧ (∀ s H C cl fp, PG (Blk X scope s H C cl fp) tg g) ∧ (∀ s H C cl fp, PTs (Blk X scope s H C cl fp) ifs tt) ∧
      ∀ ys, (m.bind fun xs => compO ft fe xs) = some ys → ∀ B M σ H (Q : VK), In B M H → OkS Γ σ B M →
        (∀ v B' M' H', Gr B H B' H' → Same M' H' → (∀ a o, M' a = some o → H a = none ∧ B' a = none) → (mListO X.K χ τe hfr ys).p v B' M' → Q v H') → tLc wi g tt (eBlk X scope elt) (own.map (·.2)) σ H Q := by
  obtain ⟨wi, pi, qi⟩ := hi
  obtain ⟨g, pg, qg⟩ := hg
  obtain ⟨tt, pt, qt⟩ := ht
  refine ⟨wi, g, tt, pi, pg, pt, fun ys hy B M σ H Q inn ok q => ?_⟩
  obtain ⟨xs, h1, h2⟩ := bind_of hy
  refine qi xs h1 B M σ H _ inn ok fun Jt B1 H1 g1 it hsz => ?_
  intro D hD
  have hB1D : B1 D = none := fresh_of g1.bh hD
  have hHD : H D = none := fresh_of g1.hh hD
  obtain ⟨M0, sm0, okw⟩ := (ok.mono g1.bb).wipe (own.map (·.2))
  have inn1 := inn.gr g1
  refine ⟨fun i m H' => m = xs.length - i ∧ i ≤ xs.length ∧ ∃ B' acc vs zs Mo, Gr B1 H1 B' H' ∧ H' D = some (.lst vs) ∧ B' D = none ∧ OkS (owns χ acc) (vs.map some) B' Mo ∧ Same Mo H' ∧ (∀ a o, Mo a = some o → H1 a = none ∧ a ≠ D ∧ B' a = none) ∧ acc.length ≤ i ∧ compO ft fe (xs.drop i) = some zs ∧ ys = acc ++ zs,
    ⟨_, rfl, Nat.zero_le _, B1, [], [], ys, emp, Gr.heap g1.bh (same_upd hD), upd_same, hB1D, rfl, (fun _ _ z => nomatch z), (fun _ _ z => nomatch z), Nat.le_refl _, h2, rfl⟩, ?_⟩
  intro i mm H' ⟨emm, hle, B', acc, vs, zs, Mo, gg, hDv, hBD, pr, sMo, nMo, hlen, hf, hys⟩
  subst emm
  have inM : In B' M0 H' := ⟨gg.bh, sm0.trans (inn1.m.trans gg.hh), fun a o h => gg.new a o (inn1.m a o (sm0 a o h)) (inn1.dj a o (sm0 a o h))⟩
  cases hx : xs[i]? with
  | none =>
    have hl : xs.length ≤ i := List.getElem?_eq_none_iff.mp hx
    refine .inl ⟨(it i B' H' gg.bb gg.bh).2 hx, ?_⟩
    rw [List.drop_eq_nil_of_le hl] at hf
    cases hf
    rw [List.append_nil] at hys
    subst hys
    have dD : Dj (sing D (.lst vs)) Mo := fun a o h => by
      obtain ⟨e1, e2⟩ := sing_some h
      subst e1
      cases z : Mo a with
      | none => rfl
      | some u => exact absurd rfl (nMo a u z).2.1
    refine q (.ref D) B' (un (sing D (.lst vs)) Mo) H' (g1.trans gg) (same_un (fun a o h => ?_) sMo) (fun a o h => ?_) ⟨D, vs, Mo, rfl, rfl, dD, pr⟩
    · obtain ⟨e1, e2⟩ := sing_some h
      subst e1 e2
      exact hDv
    · rcases un_some h with h | ⟨_, h⟩
      · obtain ⟨e1, e2⟩ := sing_some h
        subst e1
        exact ⟨hHD, hBD⟩
      · exact ⟨fresh_of g1.hh (nMo a o h).1, (nMo a o h).2.2⟩
  | some x =>
    have hlt : i < xs.length := (List.getElem?_eq_some_iff.mp hx).1
    obtain ⟨hgo, hyl⟩ := (it i B' H' gg.bb gg.bh).1 x hx
    obtain ⟨b, ht1, hyes, hno⟩ := compO_drop hx hf
    refine .inr ⟨hgo, fun H2 => ∃ B2 acc2 vs2 zs2 Mo2, Gr B1 H1 B2 H2 ∧ H2 D = some (.lst vs2) ∧ B2 D = none ∧ OkS (owns χ acc2) (vs2.map some) B2 Mo2 ∧ Same Mo2 H2 ∧ (∀ a o, Mo2 a = some o → H1 a = none ∧ a ≠ D ∧ B2 a = none) ∧ acc2.length ≤ i + 1 ∧ compO ft fe (xs.drop (i + 1)) = some zs2 ∧ ys = acc2 ++ zs2,
      fun H2 ⟨B2, acc2, vs2, zs2, Mo2, k1, k2, k3, k4, k5, k6, k7, k8, k9⟩ => ⟨xs.length - (i + 1), by omega, rfl, hlt, B2, acc2, vs2, zs2, Mo2, k1, k2, k3, k4, k5, k6, k7, k8, k9⟩, fun v H2 hv => ?_⟩
    obtain ⟨B2, g2, r2⟩ := hyl v H2 hv
    have in2 : In B2 M0 H2 := inM.gr g2
    refine qg x v B2 M0 _ H2 _ _ in2 (okw.mono (gg.bb.trans g2.bb)) r2 fun σ3 M3 sm3 ok3 hw => ⟨?_, ?_⟩
    · rw [hw _ his, wipe_wipe]
    · have in3 : In B2 M3 H2 := ⟨in2.b, sm3.trans in2.m, in2.dj.sub sm3⟩
      refine qt x b ht1 B2 M3 σ3 H2 _ in3 ok3 fun B4 H4 g4 => ?_
      have g24 := g2.trans g4
      have hD4 : H4 D = some (.lst vs) := g24.hh _ _ hDv
      have hB4 : B4 D = none := g24.new _ _ hDv hBD
      cases b with
      | false =>
        refine ⟨B4, acc, vs, zs, Mo, gg.trans g24, hD4, hB4, pr.mono g24.bb, sMo.trans g24.hh, (fun a o h => ⟨(nMo a o h).1, (nMo a o h).2.1, g24.new a o (sMo a o h) (nMo a o h).2.2⟩), by omega, hno rfl, hys⟩
      | true =>
        obtain ⟨y, zs2, k1, k2, k3⟩ := hyes rfl
        show eBlk X scope elt σ3 H4 _
        intro s0 H0 C0 cl0 fp0
        refine he s0 H0 C0 cl0 fp0 x y k1 B4 M3 σ3 H4 _ (in3.gr g4) (ok3.mono g4.bb) fun w B5 N5 H5 g5 n5 f5 r5 => ?_
        have g25 := g24.trans g5
        have hD5 : H5 D = some (.lst vs) := g5.hh _ _ hD4
        have hB5 : B5 D = none := g5.new _ _ hD4 hB4
        have hvl : vs.length = acc.length := by
          have := pr.len
          rw [owns_len, List.length_map] at this
          exact this.symm
        have hzl : acc.length < sizeLine := by omega
        have dN : Dj N5 Mo := fun a o h => by
          cases z : Mo a with
          | none => rfl
          | some u => have := (f5 a o h).1; rw [g24.hh a u (sMo a u z)] at this; cases this
        have nD : ∀ a o, N5 a = some o → a ≠ D := fun a o h e => by
          subst e
          have := (f5 a o h).1
          rw [hD4] at this
          cases this
        refine ⟨vs, hD5, by omega, B5, acc ++ [y], vs ++ [w], zs2, un N5 Mo, ?_, upd_same, hB5, ?_, ?_, ?_, by simp; omega, k2, by rw [hys, k3]; simp⟩
        · have gx := gg.trans g25
          refine ⟨gx.bb, fun a o h => ?_, fun a o h => ?_, gx.new⟩
          · rw [upd_ne (ne_of_none h hD)]; exact gx.hh a o h
          · rw [upd_ne (ne_of_none h hB5)]; exact gx.bh a o h
        · unfold owns
          rw [List.map_append, List.map_append]
          exact OkS.snocO r5 (pr.mono g25.bb) dN
        · refine same_un (fun a o h => ?_) fun a o h => ?_
          · rw [upd_ne (nD a o h)]; exact n5 a o h
          · rw [upd_ne (nMo a o h).2.1]; exact g25.hh a o (sMo a o h)
        · intro a o h
          rcases un_some h with h | ⟨_, h⟩
          · exact ⟨fresh_of (gg.trans g24).hh (f5 a o h).1, nD a o h, (f5 a o h).2⟩
          · exact ⟨(nMo a o h).1, (nMo a o h).2.1, g25.new a o (sMo a o h) (nMo a o h).2.2⟩
/-- [elt for tg in iter if ..] -/
theorem eo_lcO {χ : β → MO} {scope : Scope} {own : List (Str × Nat)} {m : Option (List α)} {τ : Ty α} {up : List Slot → α → List Slot} {is : List Nat} {ft : α → Option Bool} {fe : α → Option β} {τe : Ty β} (hfr : ∀ x, (χ x).fr = τe.P x) (hc : X.calm = true) (hN : X.N.Nodup) (ok : BlkOk X.N X.env.scope scope own) (hi : PIm X tg iter Γ m τ) (hg : PGc X scope tg τ up is) (his : ∀ i ∈ is, i ∈ own.map (·.2))
    (ht : ∃ t : TT, (∀ s H C cl fp, PTs (Blk X scope s H C cl fp) ifs t) ∧ ∀ x b, ft x = some b → ∀ B M σ H (Q : Bool → Hp → Prop), In B M H → OkS (up (wipeS Γ (own.map (·.2))) x) σ B M → (∀ B' H', Gr B H B' H' → Q b H') → t σ H Q)
    (he : ∀ s H C cl fp, ∀ x, EOm (Blk X scope s H C cl fp) elt (up (wipeS Γ (own.map (·.2))) x) (fe x) χ) (hs : ∀ x, foldedSetIterable iter X.env x = pure x := by intro _; rfl) :
    EOm X (.ListComp elt [⟨tg, iter, ifs, 0⟩] scope pos) Γ (m.bind fun xs => compO ft fe xs) (mListO X.K χ τe hfr) := fun ys hy B M σ H Q inn okk q => by
  obtain ⟨wi, g, tt, pi, pg, pt, k⟩ := lc_runO hfr hi hg his ht he
  exact wE_of (pe_lc hc hN pi ok pg pt pe_blk hs) (k ys hy B M σ H Q inn okk q)
/-- y = [elt for tg in iter if ..] -/
theorem bl_setLcO {χ : β → MO} {i : Nat} {y : Str} {scope : Scope} {own : List (Str × Nat)} {m : Option (List α)} {τ : Ty α} {up : List Slot → α → List Slot} {is : List Nat} {ft : α → Option Bool} {fe : α → Option β} {τe : Ty β} {k : List β → Option O} (hfr : ∀ x, (χ x).fr = τe.P x) (hc : X.calm = true) (hN : X.N.Nodup) (hy : X.N[i]? = some y) (hyl : X.env.scope.names.lookup y = some .local) (hl : i < Γ.length)
    (hsw : swapsWith (.ListComp elt [⟨tg, iter, ifs, 0⟩] scope pos) (some (.Name y py)) spos.line X.env = pure true) (ok : BlkOk X.N X.env.scope scope own) (hi : PIm X tg iter Γ m τ) (hg : PGc X scope tg τ up is) (his : ∀ i ∈ is, i ∈ own.map (·.2))
    (ht : ∃ t : TT, (∀ s H C cl fp, PTs (Blk X scope s H C cl fp) ifs t) ∧ ∀ x b, ft x = some b → ∀ B M σ H (Q : Bool → Hp → Prop), In B M H → OkS (up (wipeS Γ (own.map (·.2))) x) σ B M → (∀ B' H', Gr B H B' H' → Q b H') → t σ H Q)
    (he : ∀ s H C cl fp, ∀ x, EOm (Blk X scope s H C cl fp) elt (up (wipeS Γ (own.map (·.2))) x) (fe x) χ) (hr : ∀ ys, BL X rest (G.st Γ i (.own (mListO X.K χ τe hfr ys))) (k ys) J) (hs : ∀ x, foldedSetIterable iter X.env x = pure x := by intro _; rfl) :
    BL X (.Assign [.Name y py] (.ListComp elt [⟨tg, iter, ifs, 0⟩] scope pos) spos :: rest) Γ ((m.bind fun xs => compO ft fe xs).bind k) J := fun o ho B M σ H D inn okk kk => by
  obtain ⟨ys, h1, h2⟩ := bind_of ho
  obtain ⟨wi, g, tt, pi, pg, pt, run⟩ := lc_runO hfr hi hg his ht he
  refine wSs_cons (wS_of (ps_setLc hc hN hy hyl hsw pi ok pg pt pe_blk hs) (run ys h1 B M σ H _ inn okk fun v B1 N1 H1 g1 n1 n2 r1 => ?_))
  have s1 := Stp.gr inn g1
  have dN : Dj N1 M := fun a o h => by
    cases z : M a with
    | none => rfl
    | some u => have := (n2 a o h).1; rw [inn.m a u z] at this; cases this
  obtain ⟨M', s, ok'⟩ := (okk.mono g1.bb).setOwn (i := i) r1 dN hl
  have i2 : In B1 (un N1 M') H1 := ⟨g1.bh, same_un n1 (s.trans (inn.m.trans g1.hh)), Dj.un (fun a o h => (n2 a o h).2) (s1.i.dj.sub s)⟩
  refine hr ys o h2 B1 (un N1 M') _ H1 D i2 ok' (kk.step ⟨g1.bb, i2, fun a o h _ => g1.hh a o h, fun a o h nb _ => g1.new a o h nb, fun a o h nm => un_none.mpr ⟨?_, ?_⟩⟩)
  · cases z : N1 a with
    | none => rfl
    | some u => rw [(n2 a u z).1] at h; cases h
  · cases z : M' a with
    | none => rfl
    | some u => rw [s a u z] at nm; cases nm
/-! tests that change something -/
theorem bl_iflF {m : Option ρ} {val : ρ → Bool} {Γ' : ρ → List Slot} {ma mb : ρ → Option O} (he : EFm X c Γ m val tBool Γ') (ha : ∀ r, BL X ia (Γ' r) (ma r) J) (hb : ∀ r, BL X ib (Γ' r) (mb r) J) (ht : ∀ whole, isTrue c X.env whole = (do let v ← whole; standAt c.pos; holding [v] (truthy v)) := by intro _; rfl) :
    BL X [.If c ia ib pos] Γ (m.bind fun r => if val r = true then ma r else mb r) J := fun o ho B M σ H D i ok kk => by
  obtain ⟨r, h1, h2⟩ := bind_of ho
  refine wSs_cons (wS_of (ps_if (pt_val peW ht) pssW pssW) (he r h1 B M σ H _ i ok fun v B1 M1 H1 s1 ok1 r1 => ?_))
  cases (show v = V.bl (val r) from r1)
  refine ⟨val r, rfl, ?_⟩
  cases hv : val r with
  | true =>
    rw [hv] at h2
    exact ha r o h2 B1 M1 σ H1 _ s1.i ok1 (cont_nx (kk.step s1))
  | false =>
    rw [hv] at h2
    exact hb r o h2 B1 M1 σ H1 _ s1.i ok1 (cont_nx (kk.step s1))
theorem bl_ifF {m : Option ρ} {val : ρ → Bool} {Γ' : ρ → List Slot} {ma mb : ρ → Option S} {Γj : S → List Slot} {k : S → Option O} (he : EFm X c Γ m val tBool Γ') (ha : ∀ r, BL X ia (Γ' r) (ma r) fun s => .nx (Γj s)) (hb : ∀ r, BL X ib (Γ' r) (mb r) fun s => .nx (Γj s)) (hr : ∀ s, BL X rest (Γj s) (k s) J) (ht : ∀ whole, isTrue c X.env whole = (do let v ← whole; standAt c.pos; holding [v] (truthy v)) := by intro _; rfl) :
    BL X (.If c ia ib pos :: rest) Γ (m.bind fun r => (if val r = true then ma r else mb r).bind k) J := fun o ho B M σ H D i ok kk => by
  obtain ⟨r, h1, h2⟩ := bind_of ho
  obtain ⟨s, h3, h4⟩ := bind_of h2
  refine wSs_cons (wS_of (ps_if (pt_val peW ht) pssW pssW) (he r h1 B M σ H _ i ok fun v B1 M1 H1 s1 ok1 r1 => ?_))
  cases (show v = V.bl (val r) from r1)
  refine ⟨val r, rfl, ?_⟩
  have fin : Cont (.nx (Γj s)) { D with nx := wSs X rest D } B1 M1 H1 := fun σ' B' M' H' st' ok' => hr s o h4 B' M' σ' H' D st'.i ok' (kk.step (s1.trans st'))
  cases hv : val r with
  | true =>
    rw [hv] at h3
    exact ha r s h3 B1 M1 σ H1 _ s1.i ok1 fin
  | false =>
    rw [hv] at h3
    exact hb r s h3 B1 M1 σ H1 _ s1.i ok1 fin
end
/-! promises over slots: arguments that are owned stand at any place -/
def spG {ι ω β : Type} (n : Nat) (Γ : ι → List Slot) (fm : ι → Option ω) (Γ' : ι → ω → List Slot) (val : ω → β) (τ : Ty β) : Sp := fun vs H Q _ => ∃ B M x y, vs.length = n ∧ In B M H ∧ OkS (Γ x) (vs.map some) B M ∧ fm x = some y ∧
  ∀ v B' M' H', Stp B M H B' M' H' → OkS (Γ' x y) (vs.map some) B' M' → τ.rel (val y) v B' → Q v H'
/-- what is left of the slots at a def's end -/
inductive Kp : List Slot → List Slot → List Slot → Prop
  | nil {Γ : List Slot} : Kp [] Γ []
  | any {s t : Slot} {Γ0 Γ Γ' : List Slot} (h : Kp Γ0 Γ Γ') : Kp (s :: Γ0) (t :: Γ) (.any :: Γ')
  | own {u : V} {ψ0 ψ : MO} {Γ0 Γ Γ' : List Slot} (h : Kp Γ0 Γ Γ') : Kp (.own (ψ0.at u) :: Γ0) (.own (ψ.at u) :: Γ) (.own (ψ.at u) :: Γ')
theorem kp_ok {Γ0 Γ Γ' : List Slot} (h : Kp Γ0 Γ Γ') : ∀ {σ0 σ : L2.St} {B0 M0 B M : Hp}, OkS Γ0 σ0 B0 M0 → OkS Γ σ B M → ∃ M', Same M' M ∧ OkS Γ' σ0 B M' := by
  induction h with
  | nil =>
    intro σ0 σ B0 M0 B M k0 k
    cases σ0 with
    | nil => exact ⟨emp, fun _ _ z => (nomatch z), rfl⟩
    | cons o σ0 => exact k0.elim
  | @any s t Γ0 Γ Γ' h ih =>
    intro σ0 σ B0 M0 B M k0 k
    cases σ0 with
    | nil => cases s <;> exact k0.elim
    | cons o0 σ0 =>
      cases σ with
      | nil => cases t <;> exact k.elim
      | cons o σ =>
        have k0' : ∃ M0', OkS Γ0 σ0 B0 M0' := by
          cases s with
          | any => exact ⟨_, k0⟩
          | val φ => exact ⟨_, k0.2⟩
          | own ψ => obtain ⟨_, _, M2, _, _, _, _, z⟩ := k0; exact ⟨M2, z⟩
        have k' : ∃ M2, Same M2 M ∧ OkS Γ σ B M2 := by
          cases t with
          | any => exact ⟨_, Same.refl _, k⟩
          | val φ => exact ⟨_, Same.refl _, k.2⟩
          | own ψ => obtain ⟨_, M1, M2, _, m, d, _, z⟩ := k; exact ⟨M2, by rw [m]; exact same_un_r d, z⟩
        obtain ⟨M0', k0'⟩ := k0'
        obtain ⟨M2, s2, k'⟩ := k'
        obtain ⟨M', s', z⟩ := ih k0' k'
        exact ⟨M', s'.trans s2, z⟩
  | @own u ψ0 ψ Γ0 Γ Γ' h ih =>
    intro σ0 σ B0 M0 B M k0 k
    cases σ0 with
    | nil => exact k0.elim
    | cons o0 σ0 =>
      cases σ with
      | nil => exact k.elim
      | cons o σ =>
        obtain ⟨v0, N1, N2, e0, _, _, ⟨ev0, _⟩, k0'⟩ := k0
        obtain ⟨v, M1, M2, e, m, d, ⟨ev, p⟩, k'⟩ := k
        obtain ⟨M', s', z⟩ := ih k0' k'
        subst ev0 ev m
        exact ⟨un M1 M', same_un' (Same.refl _) s' d, _, M1, M', e0, rfl, (d.symm.sub s').symm, ⟨rfl, p⟩, z⟩
theorem retG {ι ω β : Type} {Γ : ι → List Slot} {Γ' : ι → ω → List Slot} {val : ω → β} {τ : Ty β} {x : ι} {vs : List V} {Γe : List Slot} (h0 : ∃ B0 M0, OkS (Γ x) (vs.map some) B0 M0) (g : β → ω) (hv : ∀ z, val (g z) = z) (hk : ∀ z, Kp (Γ x) Γe (Γ' x (g z))) :
    ∀ (z : β) (v : V) (σ : L2.St) (B M : Hp), OkS Γe σ B M → τ.rel z v B → ∃ M', Same M' M ∧ (fun (y : ω) v B M => OkS (Γ' x y) (vs.map some) B M ∧ τ.rel (val y) v B) (g z) v B M' := fun z v σ B M ok r => by
  obtain ⟨B0, M0, k0⟩ := h0
  obtain ⟨M', s, k⟩ := kp_ok (hk z) k0 ok
  exact ⟨M', s, k, by rw [hv]; exact r⟩
theorem endG {ι ω : Type} {Γ : ι → List Slot} {Γ' : ι → ω → List Slot} {val : ω → Unit} {x : ι} {vs : List V} {Γe : List Slot} (h0 : ∃ B0 M0, OkS (Γ x) (vs.map some) B0 M0) (y : ω) (hk : Kp (Γ x) Γe (Γ' x y)) :
    ∀ (σ : L2.St) (B M : Hp), OkS Γe σ B M → ∃ M', Same M' M ∧ (fun (y : ω) v B M => OkS (Γ' x y) (vs.map some) B M ∧ tNone.rel (val y) v B) y .non B M' := fun σ B M ok => by
  obtain ⟨B0, M0, k0⟩ := h0
  obtain ⟨M', s, k⟩ := kp_ok hk k0 ok
  exact ⟨M', s, k, rfl⟩
section
variable {P : Program} {w : World} {K : PySem.W.Frag} {mg : Str → Option Value} {base : Heap} {ι ω β : Type} {x qual : Str} {params : Arguments} {body : List Stmt} {scope : Scope} {dvs : List V} {kws : List (Str × V)} {f : Addr} {fd : FuncData} {N ps : List Str} {k : Nat}
theorem okG {Γ : ι → List Slot} {fm : ι → Option ω} {Γ' : ι → ω → List Slot} {val : ω → β} {τ : Ty β} (F : FunD K x qual params body scope dvs kws f fd) (S : FnScope N ps scope)
    (hb : ∀ (cdv : Value) (A : Around) (outer : List Env) (s : Shared) (H : Hp) (E : XK), Room k (A.deeper (PyProof.Rows.envOfC qual scope s.heap.objs.size f cdv)) → ∀ x (vs : List V), (∃ B0 M0, OkS (Γ x) (vs.map some) B0 M0) → BL (cxOf CX0 P w K mg base N qual scope f cdv A outer s H E).nox body
      (Γ x ++ List.replicate (N.length - ps.length) .any) (fm x) (fun y => .fn fun v B M => OkS (Γ' x y) (vs.map some) B M ∧ τ.rel (val y) v B)) :
    FnOk P w K mg base CX0 (k + 1) f fd ps (spG ps.length Γ fm Γ' val τ) := by
  refine F.ok S (fun vs H Q E h => ?_) (fun cdv A outer s H vs Q E hr h => ?_)
  · obtain ⟨B, M, x, y, e, _⟩ := h
    exact e
  · obtain ⟨B, M, x, y, hlv, i, ok, hy, q⟩ := h
    refine ⟨_, PSs.nox pssW, hb cdv A outer s H E hr x vs ⟨B, M, ok⟩ y hy B M _ H _ i ?_ ⟨fun v B' M' H' st p => ?_, fun σ B' M' H' st p => ?_⟩⟩
    · have := okS_start (N.length - ps.length) ok
      unfold L2.start
      rw [hlv]
      exact this
    · exact q v B' M' H' st p.1 p.2
    · exact q .non B' M' H' st p.1 p.2
end
/-! calls: one owned argument, at any place -/
section
variable {X : Cx} {Γ : List Slot} {a e : Expr} {es : List Expr} {pos p apos : Pos} {nm : Str} {α β γ δ ι ω : Type} {k : Nat}
/-- arguments, one of them owned: Δ their slots, put: how it is put back -/
def EG1 (X : Cx) (es : List Expr) (Γ : List Slot) {α γ : Type} (m : Option α) (χ : γ → MO) (Δ : α → V → List Slot) (put : α → γ → List Slot) : Prop := ∀ z, m = some z → ∀ B M σ H (Q : List V → Hp → Prop), In B M H → OkS Γ σ B M →
  (∀ vs v B' H' M1 M2, Gr B H B' H' → M = un M1 M2 → Dj M1 M2 → OkS (Δ z v) (vs.map some) B' M1 → (∀ c B'' M1', Same B' B'' → Dj M1' M2 → (χ c).p v B'' M1' → OkS (put z c) σ B'' (un M1' M2)) → Q vs H') → wA X es σ H Q
theorem slots_len (ρ : TyT α) (x : α) : True := trivial
theorem eg_here {χ : γ → MO} {mb : Option β} {get : β → γ} {put : β → γ → List Slot} {ρa : TyT α} {ma : Option α} (hp : PTm X a Γ mb get χ put) (ha : EAm X es Γ ma ρa) (hs : starEach (a :: es) X.env = (false, eval a X.env) :: starEach es X.env := by rfl) :
    EG1 X (a :: es) Γ (a2 mb ma) χ (fun z v => .own ((χ (get z.1)).at v) :: ρa.slots z.2) (fun z c => put z.1 c) := fun z hz B M σ H Q i ok q => by
  obtain ⟨h1, h2⟩ := a2_of hz
  refine wA_of (pa_cons peW paW hs) (hp z.1 h1 B M σ H _ i ok fun v B1 H1 M1 M2 g1 em dj r1 pb => ?_)
  refine ha z.2 h2 B1 M σ H1 _ (i.gr g1) (ok.mono g1.bb) fun vs B2 H2 g2 r2 => ?_
  refine q (v :: vs) v B2 H2 M1 M2 (g1.trans g2) em dj ⟨v, M1, emp, rfl, (un_emp _).symm, (Dj.emp _).symm, ⟨rfl, (χ _).mono _ _ _ _ g2.bb r1⟩, ρa.hsl _ _ _ r2⟩ fun c B'' M1' s d r => pb c B'' M1' (g2.bb.trans s) d r
theorem eg_one {χ : γ → MO} {mb : Option β} {get : β → γ} {put : β → γ → List Slot} (hp : PTm X a Γ mb get χ put) (hs : starEach [a] X.env = (false, eval a X.env) :: starEach [] X.env := by rfl) :
    EG1 X [a] Γ mb χ (fun z v => [.own ((χ (get z)).at v)]) (fun z c => put z c) := fun z h1 B M σ H Q i ok q => by
  refine wA_of (pa_cons peW pa_nil hs) (hp z h1 B M σ H _ i ok fun v B1 H1 M1 M2 g1 em dj r1 pb => ?_)
  exact q [v] v B1 H1 M1 M2 g1 em dj ⟨v, M1, emp, rfl, (un_emp _).symm, (Dj.emp _).symm, ⟨rfl, r1⟩, rfl⟩ pb
theorem eg_val {χ : γ → MO} {me : Option β} {τ : Ty β} {m : Option α} {Δ : α → V → List Slot} {put : α → γ → List Slot} (he : EVm X e Γ me τ) (h : EG1 X es Γ m χ Δ put) (hs : starEach (e :: es) X.env = (false, eval e X.env) :: starEach es X.env := by rfl) :
    EG1 X (e :: es) Γ (a2 me m) χ (fun z v => .val (τ.P z.1) :: Δ z.2 v) (fun z c => put z.2 c) := fun z hz B M σ H Q i ok q => by
  obtain ⟨h1, h2⟩ := a2_of hz
  refine wA_of (pa_cons peW paW hs) (he z.1 h1 B M σ H _ i ok fun w B1 H1 g1 r1 => ?_)
  refine h z.2 h2 B1 M σ H1 _ (i.gr g1) (ok.mono g1.bb) fun vs v B2 H2 M1 M2 g2 em dj ok2 pb => ?_
  exact q (w :: vs) v B2 H2 M1 M2 (g1.trans g2) em dj ⟨⟨w, rfl, τ.mono _ _ _ _ g2.bb r1⟩, ok2⟩ pb
/-- one owned slot among slots that say nothing -/
inductive One : List Slot → MO → Prop
  | here {ψ : MO} {n : Nat} : One (.own ψ :: List.replicate n .any) ψ
  | there {ψ : MO} {Γ : List Slot} (h : One Γ ψ) : One (.any :: Γ) ψ
theorem anys {B M : Hp} : ∀ {n : Nat} {σ : L2.St}, OkS (List.replicate n .any) σ B M → M = emp
  | 0, [], h => h
  | 0, _ :: _, h => h.elim
  | n + 1, [], h => h.elim
  | n + 1, _ :: σ, h => anys (n := n) (σ := σ) h
theorem one_ok {Γ : List Slot} {χ : MO} {u : V} {ψ : MO} (h : One Γ ψ) : ψ = χ.at u → ∀ {σ : L2.St} {B M : Hp}, OkS Γ σ B M → χ.p u B M := by
  induction h with
  | @here ψ n =>
    intro e σ B M k
    subst e
    cases σ with
    | nil => exact k.elim
    | cons o σ =>
      obtain ⟨v, M1, M2, _, m, d, ⟨ev, p⟩, k'⟩ := k
      rw [anys k', un_emp] at m
      subst ev m
      exact p
  | @there ψ Γ h ih =>
    intro e σ B M k
    cases σ with
    | nil => exact k.elim
    | cons o σ => exact ih e (σ := σ) k
theorem ef_call1 {Γs : ι → List Slot} {fm : ι → Option ω} {Γs' : ι → ω → List Slot} {val : ω → δ} {τ : Ty δ} {χ : γ → MO} {m : Option α} {Δ : α → V → List Slot} {put : α → γ → List Slot} {n : Nat} {mm : Option (α × ω)} {vv : α × ω → δ} {Γ'' : α × ω → List Slot} (D : Dfn X.prog X.w X.K X.mg X.base nm k [] (spG n Γs fm Γs' val τ)) (hr : Room k X.A) (hg : Gl X nm) (h : EG1 X (e :: es) Γ m χ Δ put)
    (ext : α → V → ι) (new : ω → γ) (hl : ∀ z v, (Δ z v).length = n) (hd : ∀ z v, Γs (ext z v) = Δ z v) (h1 : ∀ z v y, One (Γs' (ext z v) y) ((χ (new y)).at v)) (hf : ∀ z v v', fm (ext z v) = fm (ext z v')) (hM : mm = m.bind fun z => (fm (ext z .non)).bind fun y => some (z, y)) (hV : ∀ r, vv r = val r.2) (hP : ∀ r, Γ'' r = put r.1 (new r.2))
    (hdb : (nm == ("__debug__" : Str)) = false := by decide) (he : starEach (e :: es) X.env = (false, eval e X.env) :: starEach es X.env := by rfl) (hpl : (backTo pos (starEach es X.env)).any (·.1) = false := by rfl) :
    EFm X (.Call (.Name nm p) (e :: es) [] pos) Γ mm vv τ Γ'' := fun r hr' B M σ H Q i ok q => by
  rw [hM] at hr'
  rw [hV, hP] at q
  obtain ⟨z, h2, h3⟩ := bind_of hr'
  obtain ⟨y, h4, h5⟩ := bind_of h3
  cases h5
  obtain ⟨f, fd, ps, dv, mgn, kp, bi, vd, F⟩ := D
  cases vd
  refine wE_of (pe_call F hr hg mgn kp bi .nil pass0 paW hdb he hpl) (h z h2 B M σ H _ i ok fun vs v B1 H1 M1 M2 g1 em dj ok1 pb => ?_)
  rw [List.append_nil]
  have i1 := i.gr g1
  subst em
  have hlen : vs.length = n := by
    have := ok1.len
    rw [hl, List.length_map] at this
    exact this.symm
  refine ⟨B1, M1, ext z v, y, hlen, ⟨i1.b, (same_un_l _ _).trans i1.m, i1.dj.un_l⟩, by rw [hd]; exact ok1, by rw [hf z v .non]; exact h4, fun v' B2 M1' H2 st ok2 r2 => ?_⟩
  obtain ⟨d2, i2, st2⟩ := after_mut i1 dj st
  exact q v' B2 _ H2 ((Stp.gr i g1).trans st2) (pb (new y) B2 M1' st.bb d2 (one_ok (h1 z v y) rfl ok2)) r2
end
end G
/-! G14: owned things that move: into a new instance, out of a def. -/
namespace G
open PySem PySem.Spec PyProof.Rows L2
/-- where something stood that is owned elsewhere now -/
def hole (v : V) : MO where
  p := fun w _ M => w = v ∧ M = emp
  mono := fun _ _ _ _ _ h => h
  fr := ⟨fun w _ => w = v, fun _ _ _ _ h => h⟩
  frz := fun _ _ _ _ h => h.1
  kd := fun w B M h a o e => by rw [h.2] at e; cases e
theorem hole_any {v : V} {B : Hp} : ∀ {Γ : List Slot} {σ : L2.St} {M : Hp} {j : Nat}, OkS (G.st Γ j (.own (hole v))) σ B M → OkS (G.st Γ j .any) σ B M
  | [], σ, M, j, k => k
  | s :: Γ, [], M, 0, k => k.elim
  | s :: Γ, o :: σ, M, 0, ⟨w, M1, M2, e, m, d, ⟨_, e0⟩, k⟩ => by
    subst e0 m
    exact k
  | .any :: Γ, [], M, j + 1, k => k.elim
  | .val φ :: Γ, [], M, j + 1, k => k.elim
  | .own ψ :: Γ, [], M, j + 1, k => k.elim
  | .any :: Γ, o :: σ, M, j + 1, k => hole_any (Γ := Γ) (σ := σ) k
  | .val φ :: Γ, o :: σ, M, j + 1, ⟨z, k⟩ => ⟨z, hole_any (Γ := Γ) (σ := σ) k⟩
  | .own ψ :: Γ, o :: σ, M, j + 1, ⟨w, M1, M2, e, m, d, p, k⟩ => ⟨w, M1, M2, e, m, d, p, hole_any (Γ := Γ) (σ := σ) k⟩
/-- an owned place; another thing may come there -/
def PTg (X : Cx) (p : Expr) (Γ : List Slot) {β : Type} (m : Option β) (get : β → MO) (put : β → MO → List Slot) : Prop := ∀ b, m = some b → ∀ B M σ H (Q : VK), In B M H → OkS Γ σ B M →
  (∀ v B' H' M1 M2, Gr B H B' H' → M = un M1 M2 → Dj M1 M2 → (get b).p v B' M1 → (∀ (ψ : MO) B'' M1', Same B' B'' → Dj M1' M2 → ψ.p v B'' M1' → OkS (put b ψ) σ B'' (un M1' M2)) → Q v H') → wE X p σ H Q
section
variable {X : Cx} {Γ Γ' : List Slot} {a b e : Expr} {es : List Expr} {pos p pos' apos : Pos} {rest : List Stmt} {O : Type} {α β γ δ ι : Type} {nm : Str} {k n : Nat}
theorem pg_own {i : Nat} {x : Str} {d : β} {χ : β → MO} (hΓ : sl Γ i = .own (χ d)) (hN : X.N[i]? = some x) (hv : Vis X.env.scope x) (hd : (x == ("__debug__" : Str)) = false := by decide) (hcd : (x == ("__classdict__" : Str)) = false := by decide) :
    PTg X (.Name x pos) Γ (some d) χ (fun _ ψ => G.st Γ i (.own ψ)) := fun y hy B M σ H Q inn ok q => by
  obtain rfl : d = y := Option.some.inj hy
  obtain ⟨v, M1, M2, e, m, dj, r, put⟩ := ok.focus hΓ
  exact wE_of (pe_var hN hv hd hcd) ⟨v, e, q v B H M1 M2 (Gr.refl inn.b) m dj r fun ψ B'' M1' s d' r' => put ψ B'' M1' s d' r'⟩
theorem pg_fld {C : Addr} {names : List Str} {f : Str} {j : Nat} {m : Option β} {sf : β → List Slot} {put : β → MO → List Slot} {g : β → MO} (hp : PTg X a Γ m (fun d => mObj C names (sf d)) put) (c : Cls X.K C) (n : NoAttr X.K C f)
    (hs : ∀ d, sl (sf d) j = .own (g d)) (nd : names.Nodup := by decide +kernel) (hj : names[j]? = some f := by rfl) (hb : attributeBase a f X.env (eval a X.env) = eval a X.env := by rfl) :
    PTg X (.Attribute a f pos) Γ m g (fun b ψ => put b (mObj C names (G.st (sf b) j (.own ψ)))) := fun y hy B M σ H Q inn ok q => by
  refine wE_of (pe_fld peW hb) (hp y hy B M σ H _ inn ok fun v B1 H1 M1 M2 g1 em dj ⟨u, dx, vs, N, ev, eN, dN, hl, k⟩ pb => ?_)
  obtain ⟨w, N1, N2, ew, en, dn, r, pk⟩ := k.focus (hs _)
  have ew' := map_some_at ew
  subst eN en
  have hu1 : H1 u = some (.ins C dx (names.zip vs)) := g1.hh _ _ (inn.m _ _ (by rw [em]; exact un_l (un_l sing_same)))
  refine ⟨u, C, dx, _, w, ev, hu1, c, n, zip_look nd hj ew', ?_⟩
  have dN1 : Dj (sing u (.ins C dx (names.zip vs))) N1 := (dN.symm.un_l).symm
  have dN2 : Dj (sing u (.ins C dx (names.zip vs))) N2 := (dN.symm.un_r dn).symm
  have dj1 : Dj N1 M2 := (dj.un_r dN).un_l
  have dj2 : Dj N2 M2 := (dj.un_r dN).un_r dn
  have dj0 : Dj (sing u (.ins C dx (names.zip vs))) M2 := dj.un_l
  refine q w B1 H1 N1 (un (sing u (.ins C dx (names.zip vs))) (un N2 M2)) g1 ?_ ?_ r fun ψ B2 N1' s2 d2 r2 => ?_
  · rw [em, ← un_assoc, ← un_assoc, ← un_assoc, un_comm dN1]
  · exact (Dj.un dN1 (Dj.un dn.symm dj1.symm)).symm
  · have e1 : Dj N1' (sing u (.ins C dx (names.zip vs))) := d2.symm.un_l.symm
    have e23 : Dj N1' (un N2 M2) := (d2.symm.un_r ((Dj.un dN2.symm dj0.symm).symm)).symm
    have e2 : Dj N1' N2 := e23.symm.un_l.symm
    have e3 : Dj N1' M2 := (e23.symm.un_r dj2).symm
    have res := pb (mObj C names (G.st (sf y) j (.own ψ))) B2 (un (sing u (.ins C dx (names.zip vs))) (un N1' N2)) s2 (Dj.un dj0 (Dj.un e3 dj2)) ⟨u, dx, vs, un N1' N2, ev, rfl, (Dj.un e1 dN2.symm).symm, hl, pk ψ B2 N1' s2 e2 r2⟩
    have : un N1' (un (sing u (.ins C dx (names.zip vs))) (un N2 M2)) = un (un (sing u (.ins C dx (names.zip vs))) (un N1' N2)) M2 := by
      rw [← un_assoc, un_comm e1, un_assoc, un_assoc, un_assoc]
    rw [this]
    exact res
/-- arguments that move -/
def EMv (X : Cx) (es : List Expr) (Γ : List Slot) {α : Type} (m : Option α) (Δ : α → List Slot) : Prop := ∀ x, m = some x → ∀ B M σ H (Q : List V → Hp → Prop), In B M H → OkS Γ σ B M →
  (∀ vs B' H' M1 M2, Gr B H B' H' → M = un M1 M2 → Dj M1 M2 → OkS (Δ x) (vs.map some) B' M1 → Q vs H') → wA X es σ H Q
theorem em_nil : EMv X [] Γ (some ()) (fun _ => []) := fun x hx B M σ H Q i ok q => wA_of pa_nil (q [] B H emp M (Gr.refl i.b) (emp_un M).symm (Dj.emp _) rfl)
theorem em_val {me : Option β} {τ : Ty β} {m : Option α} {Δ : α → List Slot} (he : EVm X e Γ me τ) (h : EMv X es Γ m Δ) (hs : starEach (e :: es) X.env = (false, eval e X.env) :: starEach es X.env := by rfl) :
    EMv X (e :: es) Γ (a2 me m) (fun z => .val (τ.P z.1) :: Δ z.2) := fun z hz B M σ H Q i ok q => by
  obtain ⟨h1, h2⟩ := a2_of hz
  refine wA_of (pa_cons peW paW hs) (he z.1 h1 B M σ H _ i ok fun w B1 H1 g1 r1 => ?_)
  refine h z.2 h2 B1 M σ H1 _ (i.gr g1) (ok.mono g1.bb) fun vs B2 H2 M1 M2 g2 em dj ok2 => ?_
  exact q (w :: vs) B2 H2 M1 M2 (g1.trans g2) em dj ⟨⟨w, rfl, τ.mono _ _ _ _ g2.bb r1⟩, ok2⟩
theorem em_own {mb : Option β} {get : β → MO} {put : β → MO → List Slot} {m : Option α} {Δ : α → List Slot} (hp : PTg X a Γ mb get put) (h : ∀ b v, EMv X es (put b (hole v)) m Δ) (hs : starEach (a :: es) X.env = (false, eval a X.env) :: starEach es X.env := by rfl) :
    EMv X (a :: es) Γ (a2 mb m) (fun z => .own (get z.1) :: Δ z.2) := fun z hz B M σ H Q i ok q => by
  obtain ⟨h1, h2⟩ := a2_of hz
  refine wA_of (pa_cons peW paW hs) (hp z.1 h1 B M σ H _ i ok fun v B1 H1 M1 M2 g1 em dj r1 pb => ?_)
  have ok2 := pb (hole v) B1 emp (Same.refl _) (Dj.emp _) ⟨rfl, rfl⟩
  rw [emp_un] at ok2
  have i1 := i.gr g1
  subst em
  have i2 : In B1 M2 H1 := ⟨i1.b, (same_un_r dj).trans i1.m, i1.dj.un_r dj⟩
  refine h z.1 v z.2 h2 B1 M2 σ H1 _ i2 ok2 fun vs B2 H2 N1 N2 g2 em2 dj2 ok3 => ?_
  subst em2
  have d1 : Dj M1 N1 := dj.symm.un_l.symm
  have d2 : Dj M1 N2 := (dj.symm.un_r dj2).symm
  exact q (v :: vs) B2 H2 (un M1 N1) N2 (g1.trans g2) (un_assoc _ _ _).symm (Dj.un d2 dj2) ⟨v, M1, N1, rfl, rfl, d1, (get z.1).mono _ _ _ _ g2.bb r1, ok3⟩
end
/-- __init__ over slots -/
def spIS {ι β : Type} (C : Addr) (n : Nat) (Γ : ι → List Slot) (im : ι → Option β) (μ : β → MO) : Sp := fun vs H Q _ => ∃ B M x y u ws, vs = u :: ws ∧ ws.length = n ∧ In B M H ∧ OkS (.own ((mObj C [] []).at u) :: Γ x) (vs.map some) B M ∧ im x = some y ∧
  ∀ B' M' H', Stp B M H B' M' H' → (μ y).p u B' M' → Q .non H'
section
variable {P : Program} {w : World} {K : PySem.W.Frag} {mg : Str → Option Value} {base : Heap} {ι β : Type} {x qual : Str} {params : Arguments} {body : List Stmt} {scope : Scope} {dvs : List V} {kws : List (Str × V)} {f : Addr} {fd : FuncData} {N ps : List Str} {k : Nat}
theorem okIS {C : Addr} {Γ : ι → List Slot} {im : ι → Option β} {μ : β → MO} {p0 : Str} (F : FunD K x qual params body scope dvs kws f fd) (S : FnScope N (p0 :: ps) scope)
    (hb : ∀ (cdv : Value) (A : Around) (outer : List Env) (s : Shared) (H : Hp) (E : XK), Room k (A.deeper (PyProof.Rows.envOfC qual scope s.heap.objs.size f cdv)) → ∀ x u, BL (cxOf CX0 P w K mg base N qual scope f cdv A outer s H E).nox body
      (.own ((mObj C [] []).at u) :: (Γ x ++ List.replicate (N.length - (ps.length + 1)) .any)) (im x) (fun y => .fn fun v B M => v = .non ∧ (μ y).p u B M)) :
    FnOk P w K mg base CX0 (k + 1) f fd (p0 :: ps) (spIS C ps.length Γ im μ) := by
  refine F.ok S (fun vs H Q E h => ?_) (fun cdv A outer s H vs Q E hr h => ?_)
  · obtain ⟨B, M, x, y, u, ws, e, hl, _⟩ := h
    rw [e, List.length_cons, List.length_cons, hl]
  · obtain ⟨B, M, x, y, u, ws, rfl, hl, i, ok, hy, q⟩ := h
    refine ⟨_, PSs.nox pssW, hb cdv A outer s H E hr x u y hy B M _ H _ i ?_ ⟨fun v B' M' H' st p => ?_, fun σ B' M' H' st p => ?_⟩⟩
    · have := okS_start (N.length - (ps.length + 1)) ok
      unfold L2.start
      rw [List.length_cons, hl]
      exact this
    · obtain ⟨e, p⟩ := p
      subst e
      exact q B' M' H' st p
    · exact q B' M' H' st p.2
end
section
variable {X : Cx} {Γ Γ' : List Slot} {a b e : Expr} {es : List Expr} {pos p pos' pos2 apos : Pos} {rest : List Stmt} {O : Type} {J : O → Oc} {α β γ δ ι : Type} {nm : Str} {k n : Nat}
/-- self.f = x in an __init__, f is new, x owned: it moves -/
theorem bl_fldIM {C : Addr} {names : List Str} {Γf : List Slot} {u : V} {i j : Nat} {x y f : Str} {ψ : MO} {m : Option O} (hj : sl Γ j = .own ψ) (hΓ : sl (G.st Γ j .any) i = .own ((mObj C names Γf).at u)) (hN : X.N[i]? = some x) (hv : Vis X.env.scope x) (hN2 : X.N[j]? = some y) (hv2 : Vis X.env.scope y) (c : Cls X.K C) (n : NoAttr X.K C f)
    (hr : BL X rest (G.st (G.st Γ j .any) i (.own ((mObj C (names ++ [f]) (Γf ++ [.own ψ])).at u))) m J) (hf : (names.contains f) = false := by decide +kernel) (hl : names.length < 900 := by decide)
    (hd : (x == ("__debug__" : Str)) = false := by decide) (hcd : (x == ("__classdict__" : Str)) = false := by decide) (hd2 : (y == ("__debug__" : Str)) = false := by decide) (hcd2 : (y == ("__classdict__" : Str)) = false := by decide)
    (hs : swapsWith (.Name y pos2) (some (.Attribute (.Name x p) f pos')) pos.line X.env = pure false := by rfl) : BL X (.Assign [.Attribute (.Name x p) f pos'] (.Name y pos2) pos :: rest) Γ m J := fun oo ho B M σ H D inn ok kk => by
  refine wSs_cons (wS_of (ps_fld (pe_var hN hv hd hcd) (pe_var hN2 hv2 hd2 hcd2) hs) ?_)
  obtain ⟨v, N0, M2, ev, em, d0, r1, put0⟩ := ok.focus hj
  have okh := put0 (hole v) B emp (Same.refl _) (Dj.emp _) ⟨rfl, rfl⟩
  rw [emp_un] at okh
  have ok2 : OkS (G.st Γ j .any) σ B M2 := hole_any okh
  obtain ⟨w, N1, N2, e1, m1, d1, ⟨e2, a, dx, vs, M1, e3, m2, d2, l2, k2⟩, put⟩ := ok2.focus hΓ
  subst e3 m2 em
  have hfn : f ∉ names := fun q => by rw [List.contains_iff_mem.mpr q] at hf; cases hf
  refine ⟨v, ev, .ref a, e1, a, C, dx, names.zip vs, rfl, inn.m a _ ?_, c, n, ?_, ?_⟩
  · refine same_un_r d0 _ _ ?_
    rw [m1]
    exact un_l (un_l sing_same)
  · rw [List.length_zip]; exact Nat.lt_of_le_of_lt (Nat.min_le_left _ _) (Nat.lt_trans hl (by decide))
  · rw [putF_new l2 hfn]
    subst m1
    have dNa : Dj N0 (sing a (.ins C dx (names.zip vs))) := (d0.symm.un_l.un_l).symm
    have dNM : Dj N0 M1 := (d0.symm.un_l.un_r d2).symm
    have dN2 : Dj N0 N2 := (d0.symm.un_r d1).symm
    have eM : un N0 (un (un (sing a (.ins C dx (names.zip vs))) M1) N2) = un (un (sing a (.ins C dx (names.zip vs))) (un N0 M1)) N2 := by
      rw [← un_assoc, ← un_assoc, un_comm dNa, un_assoc (sing a _) N0 M1]
    have da : Dj (sing a (.ins C dx (names.zip vs))) (un N0 M1) := (Dj.un dNa d2.symm).symm
    have db : Dj (un (sing a (.ins C dx (names.zip vs))) (un N0 M1)) N2 := Dj.un d1.un_l (Dj.un dN2 (d1.un_r d2))
    obtain ⟨i2, s2⟩ := In.upd (N := un N0 M1) (o' := .ins C dx ((names ++ [f]).zip (vs ++ [v]))) (by rw [← eM]; exact inn) db da
    have ok3 := put ((mObj C (names ++ [f]) (Γf ++ [.own ψ])).at u) B (un (sing a (.ins C dx ((names ++ [f]).zip (vs ++ [v])))) (un N0 M1)) (Same.refl _) (Dj.un (dj_sing d1.un_l) (Dj.un dN2 (d1.un_r d2)))
      ⟨e2, a, dx, vs ++ [v], un N0 M1, rfl, rfl, dj_sing da, by simp [l2], by rw [List.map_append]; exact k2.snocO r1 dNM⟩
    rw [eM] at kk
    exact hr oo ho B _ σ _ D i2 ok3 (kk.step s2)
/-- return C(..), its owned arguments move -/
theorem bl_retMk {J : β → Oc} {C : Addr} {Γs : ι → List Slot} {im : ι → Option β} {μ : β → MO} {m : Option α} {Δ : α → List Slot} {g : α → Option β} (ext : α → ι) (D : Mak X.prog X.w X.K X.mg X.base nm C k [] (spIS C n Γs im μ)) (hr : Room (k + 1) X.A) (hg : Gl X nm) (h : EMv X (e :: es) Γ m Δ)
    (hl : ∀ z, (Δ z).length = n) (hd : ∀ z, Γs (ext z) = Δ z) (hJ : ∀ x, (J x).ret = some (fun v B M => (μ x).p v B M)) (hG : ∀ z, g z = im (ext z))
    (hdb : (nm == ("__debug__" : Str)) = false := by decide) (he : starEach (e :: es) X.env = (false, eval e X.env) :: starEach es X.env := by rfl) (hpl : (backTo pos (starEach es X.env)).any (·.1) = false := by rfl) :
    BL X (.Return (some (.Call (.Name nm p) (e :: es) [] pos)) pos' :: rest) Γ (m.bind g) J := fun y hy B M σ H DD i ok kk => by
  obtain ⟨z, h1, h2⟩ := bind_of hy
  rw [hG] at h2
  obtain ⟨f, fd, ps, dv, mgn, mk, bi, vd, F⟩ := D
  cases vd
  refine wSs_cons (wS_of (ps_ret (pe_make mk F hr hg mgn bi .nil pass0 paW hdb he hpl)) (h z h1 B M σ H _ i ok fun vs B1 H1 M1 M2 g1 em dj ok1 => ?_))
  intro u dx hu hdx hne
  rw [List.append_nil]
  have i1 := i.gr g1
  subst em
  have s1 : Same H1 (upd (upd H1 dx (.own u)) u (.ins C dx [])) := fun a o h => by
    rw [upd_ne (ne_of_none h hu), upd_ne (ne_of_none h hdx)]
    exact h
  have hm1 : ∀ a o, M1 a = some o → H1 a = some o := fun a o h => i1.m a o (un_l h)
  have d0 : Dj (sing u (.ins C dx [])) M1 := fun a o h => by
    obtain ⟨e1, e2⟩ := sing_some h
    subst e1
    cases q : M1 a with
    | none => rfl
    | some z => rw [hm1 a z q] at hu; cases hu
  have i2 : In B1 (un (sing u (.ins C dx [])) M1) (upd (upd H1 dx (.own u)) u (.ins C dx [])) := by
    refine ⟨i1.b.trans s1, same_un (fun a o h => ?_) (fun a o h => s1 a o (hm1 a o h)), Dj.un (fun a o h => ?_) i1.dj.un_l⟩
    · obtain ⟨e1, e2⟩ := sing_some h
      subst e1 e2
      exact upd_same
    · obtain ⟨e1, e2⟩ := sing_some h
      subst e1
      exact fresh_of i1.b hu
  have hlv : vs.length = n := by
    have := ok1.len
    rw [hl, List.length_map] at this
    exact this.symm
  refine ⟨B1, _, ext z, y, .ref u, vs, rfl, hlv, i2, ?_, h2, fun B2 M2' H2 st r => ⟨rfl, ?_⟩⟩
  · rw [hd]
    exact ⟨.ref u, sing u (.ins C dx []), M1, rfl, rfl, d0, ⟨rfl, u, dx, [], emp, rfl, (un_emp _).symm, (Dj.emp _).symm, rfl, rfl⟩, ok1⟩
  · have hn : ∀ a o, H1 a = some o → un M1 M2 a = none → un (sing u (.ins C dx [])) M1 a = none := fun a o h nm => un_none.mpr ⟨sing_ne (ne_of_none h hu), (un_none.mp nm).1⟩
    exact kk.ret (hJ y) (.ref u) B2 M2' H2 ⟨g1.bb.trans st.bb, st.i, fun a o h nm => st.fr a o (s1 a o (g1.hh a o h)) (hn a o (g1.hh a o h) nm),
      fun a o h nb nm => st.newB a o (s1 a o (g1.hh a o h)) (g1.new a o h nb) (hn a o (g1.hh a o h) nm), fun a o h nm => st.newM a o (s1 a o (g1.hh a o h)) (hn a o (g1.hh a o h) nm)⟩ r
end
end G
/-! G15: numbers and truth values in one list; isinstance of built-in types; lists unpacked. -/
namespace G
open PySem PySem.Spec PyProof.Rows L2
/-- a whole number or a truth value -/
inductive IB where
  | i (n : Int)
  | b (x : Bool)
  deriving DecidableEq
def tIB : Ty IB where
  rel := fun z v _ => match z with
    | .i n => v = .int n
    | .b x => v = .bl x
  mono := fun z v B B' _ r => by cases z <;> exact r
def IB.int : IB → Option Int
  | .i n => some n
  | .b _ => none
def IB.bool : IB → Option Bool
  | .i _ => none
  | .b x => some x
section
variable {X : Cx} {Γ : List Slot} {e o : Expr} {es : List Expr} {pos p p2 : Pos} {α : Type} {τ : Ty α}
theorem ev_ibI {m : Option IB} (h : EVm X e Γ m tIB) : EVm X e Γ (m.bind IB.int) tInt := fun x hx B M σ H Q i ok q => by
  obtain ⟨z, h1, h2⟩ := bind_of hx
  cases z with
  | i n =>
    cases h2
    exact h _ h1 B M σ H Q i ok fun v B' H' g r => q v B' H' g r
  | b y => cases h2
theorem ev_ibB {m : Option IB} (h : EVm X e Γ m tIB) : EVm X e Γ (m.bind IB.bool) tBool := fun x hx B M σ H Q i ok q => by
  obtain ⟨z, h1, h2⟩ := bind_of hx
  cases z with
  | i n => cases h2
  | b y =>
    cases h2
    exact h _ h1 B M σ H Q i ok fun v B' H' g r => q v B' H' g r
theorem ev_Iib {m : Option Int} (h : EVm X e Γ m tInt) : EVm X e Γ (o1 IB.i m) tIB := fun x hx B M σ H Q i ok q => by
  obtain ⟨z, h1, rfl⟩ := o1_of hx
  exact h _ h1 B M σ H Q i ok fun v B' H' g r => q v B' H' g r
theorem ev_Bib {m : Option Bool} (h : EVm X e Γ m tBool) : EVm X e Γ (o1 IB.b m) tIB := fun x hx B M σ H Q i ok q => by
  obtain ⟨z, h1, rfl⟩ := o1_of hx
  exact h _ h1 B M σ H Q i ok fun v B' H' g r => q v B' H' g r
/-- whose values are of one built-in type -/
class TyN {α : Type} (K : PySem.W.Frag) (τ : Ty α) (T : outParam String) : Prop where
  ty : ∀ x v B H, Same B H → τ.rel x v B → TyX K H v (.type T)
instance {K : PySem.W.Frag} : TyN K tInt "int" := ⟨fun x v B H _ r => by rw [show v = .int x from r]; exact .base (.int x)⟩
instance {K : PySem.W.Frag} : TyN K tBool "bool" := ⟨fun x v B H _ r => by rw [show v = .bl x from r]; exact .base (.bl x)⟩
instance {K : PySem.W.Frag} : TyN K tStr "str" := ⟨fun x v B H _ r => by rw [show v = .str x from r]; exact .base (.str x)⟩
instance {K : PySem.W.Frag} : TyN K (tList K τ) "list" := ⟨fun x v B H s ⟨a, vs, e, h, _⟩ => by rw [e]; exact .base (.lst (s _ _ h))⟩
theorem tyx_tup {K : PySem.W.Frag} {H : Hp} {a : Addr} {xs : List V} (h : SqT K H a xs) : TyX K H (.ref a) (.type "tuple") := by
  rcases h with h | ⟨o, its, n, hk, hc, _⟩
  · rcases h with h | ⟨o, h⟩
    · exact .base (.tup h)
    · exact .fTuple h
  · exact .kTuple hk hc
instance {K : PySem.W.Frag} {ρ : TyT α} : TyN K (tTup K ρ) "tuple" := ⟨fun x v B H s ⟨a, vs, e, h, _⟩ => by rw [e]; exact tyx_tup (same_tup s h)⟩
instance {K : PySem.W.Frag} : TyN K (tTups K τ) "tuple" := ⟨fun x v B H s ⟨a, vs, e, h, _⟩ => by rw [e]; exact tyx_tup (same_tup s h)⟩
theorem ev_isiT {T T' : String} {nm : Str} {b : Bool} {m : Option α} [ht : TyN X.K τ T] (hk : kitB T T' = some b) (hv : bootBuiltins nm = some (.type T')) (hm : X.mg nm = none) (hg : Gl X "isinstance") (hf : X.mg "isinstance" = none) (hgc : Gl X nm) (ho : EVm X o Γ m τ) (hn : nm ≠ "__name__" := by decide) (hd : (nm == ("__debug__" : Str)) = false := by decide)
    (he : starEach [o, .Name nm p2] X.env = (false, eval o X.env) :: starEach [.Name nm p2] X.env := by rfl) (he2 : starEach [.Name nm p2] X.env = (false, eval (.Name nm p2) X.env) :: starEach [] X.env := by rfl) (hpl : (backTo pos (starEach [.Name nm p2] X.env)).any (·.1) = false := by rfl) :
    EVm X (.Call (.Name "isinstance" p) [o, .Name nm p2] [] pos) Γ (o1 (fun _ => b) m) tBool := fun z hz B M σ H Q i ok q => by
  obtain ⟨x, h1, rfl⟩ := o1_of hz
  refine wE_of (pe_callB call_isi hg hf (by decide +kernel) (pa_cons peW (pa_cons (pe_bltn (v := .ty T') hgc hm hv rfl hn hd) pa_nil he2) he) (by decide) (by decide) he hpl) (ho x h1 B M σ H _ i ok fun v B1 H1 g1 r1 => ?_)
  exact ⟨v, .ty T', .type T, .type T', b, rfl, .ty T', ht.ty x v B1 H1 g1.bh r1, kit_ty hk, q _ B1 H1 g1 rfl⟩
/-! a list of so many, unpacked -/
def tLTup (K : PySem.W.Frag) (ρ : TyT α) : Ty α where
  rel := fun x v B => ∃ a vs, v = .ref a ∧ B a = some (.lst vs) ∧ ρ.rel x vs B
  mono := fun x v B B' h ⟨a, vs, e, s, r⟩ => ⟨a, vs, e, h _ _ s, ρ.mono _ _ _ _ h r⟩
def unl5 (xs : List α) : Option (α × α × α × α × α) := match xs with
  | [a, b, c, d, e] => some (a, b, c, d, e)
  | _ => none
theorem ev_unl5 {m : Option (List α)} (h : EVm X e Γ m (tList X.K τ)) : EVm X e Γ (m.bind unl5) (tLTup X.K (tCons τ (tCons τ (tCons τ (tCons τ (tOne τ)))))) := fun x hx B M σ H Q i ok q => by
  obtain ⟨xs, h1, h2⟩ := bind_of hx
  refine h xs h1 B M σ H Q i ok fun v B' H' g r => q v B' H' g ?_
  obtain ⟨a, vs, e, s, p⟩ := r
  unfold unl5 at h2
  split at h2
  · cases h2
    cases p with
    | cons r0 p =>
    cases p with
    | cons r1 p =>
    cases p with
    | cons r2 p =>
    cases p with
    | cons r3 p =>
    cases p with
    | cons r4 p =>
    cases p
    exact ⟨a, _, e, s, _, _, rfl, r0, _, _, rfl, r1, _, _, rfl, r2, _, _, rfl, r3, _, rfl, r4⟩
  · cases h2
theorem pgm_unl {n : Nat} {ρ : TyT α} {up : List Slot → α → List Slot} (hc : X.calm = true) (h : PGsm X es ρ up) (hn : (assignEach es X.env).length = ρ.len := by rfl) (hst : (assignEach es X.env).findIdx? (·.1) = none := by rfl) : PGm X (.Tuple es n pos) (tLTup X.K ρ) up := by
  obtain ⟨g, p, q⟩ := h
  refine ⟨_, pg_unl hc p hn hst, fun x v B M σ H Γ Q inn ok ⟨a, vs, ev, sq, r⟩ k => ⟨a, vs, ev, SqL.of (inn.b _ _ sq), ?_, q x vs B M σ H Γ Q inn ok r k⟩⟩
  exact ρ.hlen _ _ _ r
/-! any, all of truth values -/
theorem paired_bool_eq {B : Hp} : ∀ {xs : List Bool} {vs : List V}, Paired (fun x u => tBool.rel x u B) xs vs → vs = xs.map V.bl
  | _, _, .nil => rfl
  | _, _, .cons f t => by rw [show _ = V.bl _ from f, paired_bool_eq t]; rfl
theorem bi_anyL (hc : X.calm = true) : BIF X "any" (tOne (tList X.K tBool)) (fun xs => some (xs.any id)) tBool := ⟨_, .inl ⟨"any", by decide +kernel, cr_any hc⟩, fun x z hz vs B H Q sb ⟨v, ev, a, ws, ea, sq, pr⟩ q => by
  subst ev ea; cases hz
  exact ⟨a, x, rfl, SqL.of (by rw [← paired_bool_eq pr]; exact sb _ _ sq), q _ B H (Gr.refl sb) rfl⟩⟩
theorem bi_allL (hc : X.calm = true) : BIF X "all" (tOne (tList X.K tBool)) (fun xs => some (xs.all id)) tBool := ⟨_, .inl ⟨"all", by decide +kernel, cr_all hc⟩, fun x z hz vs B H Q sb ⟨v, ev, a, ws, ea, sq, pr⟩ q => by
  subst ev ea; cases hz
  exact ⟨a, x, rfl, SqL.of (by rw [← paired_bool_eq pr]; exact sb _ _ sq), q _ B H (Gr.refl sb) rfl⟩⟩
end
end G
/-! G16: max, min of one list. -/
namespace G
open PySem PySem.Spec PyProof.Rows L2
def minL : List Int → Option Int
  | [] => none
  | x :: xs => some (xs.foldl min x)
def maxL : List Int → Option Int
  | [] => none
  | x :: xs => some (xs.foldl max x)
theorem foldl_min : ∀ (xs : List Int) (x : Int), (xs.foldl min x ∈ x :: xs) ∧ ∀ y ∈ x :: xs, xs.foldl min x ≤ y
  | [], x => ⟨List.mem_cons_self, fun y h => by rw [List.mem_singleton.mp h]; exact Int.le_refl _⟩
  | z :: xs, x => by
    obtain ⟨h1, h2⟩ := foldl_min xs (min x z)
    rw [List.foldl_cons]
    refine ⟨?_, fun y hy => ?_⟩
    · rcases List.mem_cons.mp h1 with e | e
      · rw [e]
        by_cases c : x ≤ z
        · rw [Int.min_eq_left c]; exact List.mem_cons_self
        · rw [Int.min_eq_right (by omega)]; exact List.mem_cons_of_mem _ List.mem_cons_self
      · exact List.mem_cons_of_mem _ (List.mem_cons_of_mem _ e)
    · have h0 := h2 (min x z) List.mem_cons_self
      rcases List.mem_cons.mp hy with e | hy
      · subst e; omega
      · rcases List.mem_cons.mp hy with e | hy
        · subst e; omega
        · exact h2 y (List.mem_cons_of_mem _ hy)
theorem foldl_max : ∀ (xs : List Int) (x : Int), (xs.foldl max x ∈ x :: xs) ∧ ∀ y ∈ x :: xs, y ≤ xs.foldl max x
  | [], x => ⟨List.mem_cons_self, fun y h => by rw [List.mem_singleton.mp h]; exact Int.le_refl _⟩
  | z :: xs, x => by
    obtain ⟨h1, h2⟩ := foldl_max xs (max x z)
    rw [List.foldl_cons]
    refine ⟨?_, fun y hy => ?_⟩
    · rcases List.mem_cons.mp h1 with e | e
      · rw [e]
        by_cases c : x ≤ z
        · rw [Int.max_eq_right c]; exact List.mem_cons_of_mem _ List.mem_cons_self
        · rw [Int.max_eq_left (by omega)]; exact List.mem_cons_self
      · exact List.mem_cons_of_mem _ (List.mem_cons_of_mem _ e)
    · have h0 := h2 (max x z) List.mem_cons_self
      rcases List.mem_cons.mp hy with e | hy
      · subst e; omega
      · rcases List.mem_cons.mp hy with e | hy
        · subst e; omega
        · exact h2 y (List.mem_cons_of_mem _ hy)
theorem minL_of {xs : List Int} (h : xs ≠ []) : ∃ m, minL xs = some m ∧ m ∈ xs ∧ ∀ y ∈ xs, m ≤ y := by
  cases xs with
  | nil => exact absurd rfl h
  | cons x xs => exact ⟨_, rfl, (foldl_min xs x).1, (foldl_min xs x).2⟩
theorem maxL_of {xs : List Int} (h : xs ≠ []) : ∃ m, maxL xs = some m ∧ m ∈ xs ∧ ∀ y ∈ xs, y ≤ m := by
  cases xs with
  | nil => exact absurd rfl h
  | cons x xs => exact ⟨_, rfl, (foldl_max xs x).1, (foldl_max xs x).2⟩
section
variable {X : Cx}
theorem bi_minL (hc : X.calm = true) : BIF X "min" (tOne (tList X.K tInt)) minL tInt := ⟨_, .inl ⟨"min", by decide +kernel, cr_min hc⟩, fun x z hz vs B H Q sb ⟨v, ev, a, ws, ea, sq, pr⟩ q => by
  subst ev ea
  have hne : x ≠ [] := fun e => by rw [e] at hz; cases hz
  obtain ⟨m0, e0, i0, l0⟩ := minL_of hne
  rw [e0] at hz
  cases hz
  refine ⟨a, x, rfl, SqL.of (by rw [← paired_int_eq pr]; exact sb _ _ sq), List.length_pos_iff.mpr hne, fun m hm hle => ?_⟩
  have h1 := l0 m hm
  have h2 := hle z i0
  rw [show m = z by omega]
  exact q _ B H (Gr.refl sb) rfl⟩
theorem bi_maxL (hc : X.calm = true) : BIF X "max" (tOne (tList X.K tInt)) maxL tInt := ⟨_, .inl ⟨"max", by decide +kernel, cr_max hc⟩, fun x z hz vs B H Q sb ⟨v, ev, a, ws, ea, sq, pr⟩ q => by
  subst ev ea
  have hne : x ≠ [] := fun e => by rw [e] at hz; cases hz
  obtain ⟨m0, e0, i0, l0⟩ := maxL_of hne
  rw [e0] at hz
  cases hz
  refine ⟨a, x, rfl, SqL.of (by rw [← paired_int_eq pr]; exact sb _ _ sq), List.length_pos_iff.mpr hne, fun m hm hle => ?_⟩
  have h1 := l0 m hm
  have h2 := hle z i0
  rw [show m = z by omega]
  exact q _ B H (Gr.refl sb) rfl⟩
end
end G
/-! PL2: more plain laws of loops. -/
namespace Q
open L2 G
variable {α β γ S R T : Type}
theorem forO_all {f : S → α → Option (Lp S R)} {s : S} : ∀ {xs : List α}, (∀ x ∈ xs, f s x = some (.nx s)) → forO f s xs = some (.go s)
  | [], _ => rfl
  | x :: xs, h => by
    show (f s x).bind _ = _
    rw [h x List.mem_cons_self, bS]
    exact forO_all fun y hy => h y (List.mem_cons_of_mem _ hy)
/-- a loop that appends g x where p x -/
theorem foldO_appC {f : List β → α → Option (List β)} {p : α → Bool} {g : α → β} : ∀ {xs : List α}, (∀ s x, x ∈ xs → p x = true → s.length < 16777216 → f s x = some (s ++ [g x])) → (∀ s x, x ∈ xs → p x = false → f s x = some s) → ∀ {s : List β}, s.length + xs.length ≤ 16777216 → foldO f s xs = some (s ++ (xs.filter p).map g)
  | [], _, _, s, _ => by rw [List.filter_nil, List.map_nil, List.append_nil]; rfl
  | x :: xs, hT, hF, s, hl => by
    rw [List.length_cons] at hl
    show (f s x).bind _ = _
    rw [List.filter_cons]
    cases q : p x with
    | true =>
      rw [hT s x List.mem_cons_self q (by omega), bS, if_pos rfl, List.map_cons]
      have := foldO_appC (f := f) (p := p) (g := g) (xs := xs) (fun s y hy => hT s y (List.mem_cons_of_mem _ hy)) (fun s y hy => hF s y (List.mem_cons_of_mem _ hy)) (s := s ++ [g x]) (by rw [List.length_append]; simp; omega)
      rw [this, List.append_assoc]
      rfl
    | false =>
      rw [hF s x List.mem_cons_self q, bS, if_neg (by decide)]
      exact foldO_appC (f := f) (p := p) (g := g) (xs := xs) (fun s y hy => hT s y (List.mem_cons_of_mem _ hy)) (fun s y hy => hF s y (List.mem_cons_of_mem _ hy)) (s := s) (by omega)
/-- .. over natural numbers, told by places -/
theorem foldO_filt {f : List Int → Int → Option (List Int)} {p : Nat → Bool} {xs : List Nat} (hT : ∀ s k, k ∈ xs → p k = true → s.length < 16777216 → f s (k : Int) = some (s ++ [(k : Int)])) (hF : ∀ s k, k ∈ xs → p k = false → f s (k : Int) = some s) {s : List Int} (hl : s.length + xs.length ≤ 16777216) : foldO f s (nts xs) = some (s ++ nts (xs.filter p)) := by
  rw [foldO_appC (p := fun z => p z.toNat) (g := fun z => z) (fun s x hx hp hl => by
    obtain ⟨k, hk, rfl⟩ := mem_nts'.mp hx
    exact hT s k hk (by simpa using hp) hl) (fun s x hx hp => by
    obtain ⟨k, hk, rfl⟩ := mem_nts'.mp hx
    exact hF s k hk (by simpa using hp)) (by rw [nts_len]; exact hl), List.map_id']
  congr 2
  unfold nts
  rw [List.filter_map]
  rfl
theorem foldO_mapN {f : List β → Int → Option (List β)} {g : Nat → β} {xs : List Nat} (h : ∀ s k, k ∈ xs → s.length < 16777216 → f s (k : Int) = some (s ++ [g k])) {s : List β} (hl : s.length + xs.length ≤ 16777216) : foldO f s (nts xs) = some (s ++ xs.map g) := by
  rw [foldO_app (g := fun z => g z.toNat) (fun s x hx hl => by
    obtain ⟨k, hk, rfl⟩ := mem_nts'.mp hx
    rw [Int.toNat_natCast]
    exact h s k hk hl) (by rw [nts_len]; exact hl)]
  congr 2
  unfold nts
  rw [List.map_map]
  rfl
theorem nts_map (xs : List Nat) (f : Nat → Nat) : nts (xs.map f) = xs.map fun k => (f k : Int) := by unfold nts; rw [List.map_map]; rfl
theorem toNat_nts (xs : List Nat) : (nts xs).map Int.toNat = xs := by
  unfold nts
  rw [List.map_map]
  conv => rhs; rw [← List.map_id' xs]
  exact List.map_congr_left fun k _ => by simp
theorem forO_any {f : S → α → Option (Lp S R)} {s : S} {r : R} {p : α → Bool} : ∀ {xs : List α}, (∀ x ∈ xs, f s x = some (if p x = true then .rt r else .nx s)) → forO f s xs = some (if xs.any p = true then .rt r else .go s)
  | [], _ => rfl
  | x :: xs, h => by
    show (f s x).bind _ = _
    rw [h x List.mem_cons_self, bS, List.any_cons]
    by_cases c : p x = true
    · rw [if_pos c, if_pos (by rw [c]; rfl)]
    · rw [if_neg c]
      have e : (p x || xs.any p) = xs.any p := by rw [show p x = false by simpa using c]; rfl
      rw [e]
      exact forO_any fun y hy => h y (List.mem_cons_of_mem _ hy)
theorem forO_range {f : S → Int → Option (Lp S R)} (I : Nat → S → Prop) {n : Nat} (h : ∀ k s, k < n → I k s → ∃ s', f s (k : Int) = some (.nx s') ∧ I (k + 1) s') : ∀ {s : S}, I 0 s → ∃ s', forO f s (nts (List.range n)) = some (.go s') ∧ I n s' := by
  have gen : ∀ m k, k + m = n → ∀ s, I k s → ∃ s', forO f s (nts ((List.range m).map (k + ·))) = some (.go s') ∧ I n s' := by
    intro m
    induction m with
    | zero => exact fun k e s hi => ⟨s, rfl, by rw [← e]; exact hi⟩
    | succ m ih =>
      intro k e s hi
      obtain ⟨s1, e1, i1⟩ := h k s (by omega) hi
      obtain ⟨s2, e2, i2⟩ := ih (k + 1) (by omega) s1 i1
      refine ⟨s2, ?_, i2⟩
      have : nts ((List.range (m + 1)).map (k + ·)) = (k : Int) :: nts ((List.range m).map ((k + 1) + ·)) := by
        rw [List.range_succ_eq_map, List.map_cons, List.map_map]
        unfold nts
        rw [List.map_cons]
        congr 1
        congr 1
        exact List.map_congr_left fun j _ => by simp; omega
      rw [this]
      show (f s (k : Int)).bind _ = _
      rw [e1]
      exact e2
  intro s hi
  have := gen n 0 (by omega) s hi
  simpa using this
theorem compO_const {x : β} (xs : List α) : compO (fun _ => some true) (fun _ => some x) xs = some (tab xs.length fun _ => x) := by
  rw [compO_map (g := fun _ => x) fun _ _ => rfl]
  refine congrArg some ?_
  rw [List.map_const']
  unfold tab
  rw [List.map_const', List.length_range]
end Q
/-! G17: an owned thing appended to an owned list; slices and walks of tuples; texts and numbers in one tuple. -/
namespace G
open PySem PySem.Spec PyProof.Rows L2
/-- a whole number or a text -/
inductive SI where
  | i (n : Int)
  | s (x : Str)
  deriving DecidableEq
def tSI : Ty SI where
  rel := fun z v _ => match z with
    | .i n => v = .int n
    | .s x => v = .str x
  mono := fun z v B B' _ r => by cases z <;> exact r
def SI.int : SI → Option Int
  | .i n => some n
  | .s _ => none
def SI.str : SI → Option Str
  | .i _ => none
  | .s x => some x
section
variable {X : Cx} {Γ Γ' : List Slot} {e a b c o tg : Expr} {es : List Expr} {pos p apos cpos : Pos} {rest : List Stmt} {O : Type} {J : O → Oc} {α β γ δ : Type} {τ : Ty α}
theorem ev_siI {m : Option SI} (h : EVm X e Γ m tSI) : EVm X e Γ (m.bind SI.int) tInt := fun x hx B M σ H Q i ok q => by
  obtain ⟨z, h1, h2⟩ := bind_of hx
  cases z with
  | i n =>
    cases h2
    exact h _ h1 B M σ H Q i ok fun v B' H' g r => q v B' H' g r
  | s y => cases h2
theorem ev_siS {m : Option SI} (h : EVm X e Γ m tSI) : EVm X e Γ (m.bind SI.str) tStr := fun x hx B M σ H Q i ok q => by
  obtain ⟨z, h1, h2⟩ := bind_of hx
  cases z with
  | i n => cases h2
  | s y =>
    cases h2
    exact h _ h1 B M σ H Q i ok fun v B' H' g r => q v B' H' g r
/-- values of one type that are values of another -/
structure CoT (τa : Ty α) (τb : Ty β) (c : α → β) : Prop where
  co : ∀ x v B, τa.rel x v B → τb.rel (c x) v B
theorem coI : CoT tInt tSI SI.i := ⟨fun _ _ _ r => r⟩
theorem coS : CoT tStr tSI SI.s := ⟨fun _ _ _ r => r⟩
theorem co_id {τ : Ty α} : CoT τ τ (fun x => x) := ⟨fun _ _ _ r => r⟩
/-- a tuple of so many, seen as a tuple of things of one type -/
structure TTups (ρ : TyT α) (τ : Ty β) (f : α → List β) : Prop where
  pr : ∀ x vs B, ρ.rel x vs B → Paired (fun y u => τ.rel y u B) (f x) vs
theorem tt_one {τa : Ty α} {τ : Ty β} {c : α → β} (h : CoT τa τ c) : TTups (tOne τa) τ (fun x => [c x]) := ⟨fun x vs B ⟨v, e, r⟩ => by rw [e]; exact .cons (h.co x v B r) .nil⟩
theorem tt_cons {τa : Ty α} {τ : Ty β} {ρ : TyT γ} {c : α → β} {f : γ → List β} (h : CoT τa τ c) (k : TTups ρ τ f) : TTups (tCons τa ρ) τ (fun x => c x.1 :: f x.2) := ⟨fun x vs B ⟨v, ws, e, r, q⟩ => by rw [e]; exact .cons (h.co x.1 v B r) (k.pr x.2 ws B q)⟩
theorem ev_tt {ρ : TyT α} {τ : Ty β} {f : α → List β} {m : Option α} (h : TTups ρ τ f) (he : EVm X e Γ m (tTup X.K ρ)) : EVm X e Γ (o1 f m) (tTups X.K τ) := fun z hz B M σ H Q i ok q => by
  obtain ⟨x, h1, rfl⟩ := o1_of hz
  exact he x h1 B M σ H Q i ok fun v B' H' g ⟨a, vs, ev, sq, r⟩ => q v B' H' g ⟨a, vs, ev, sq, h.pr x vs B' r⟩
/-! slices of tuples -/
def cutU (xs : List α) (lo hi : Option Int) : Option (List α) := if HT.sIx xs.length 0 lo = 0 ∧ HT.sIx xs.length xs.length hi = xs.length then none else cutG xs lo hi
theorem ev_sliceU {lo hi : Option Expr} {p2 : Pos} {m : Option (List α)} {ml mh : Option (Option Int)} (ha : EVm X a Γ m (tTups X.K τ)) (hl : POm X lo Γ ml) (hh : POm X hi Γ mh) : EVm X (.Subscript a (.Slice lo hi none p2) pos) Γ (o3 cutU m ml mh) (tTups X.K τ) := fun z hz B M σ H Q i ok q => by
  obtain ⟨x, h1, h2⟩ := bind_of hz
  obtain ⟨l, h3, h4⟩ := bind_of h2
  obtain ⟨u, h5, h6⟩ := bind_of h4
  obtain ⟨tl, pl, ql⟩ := hl
  obtain ⟨th, ph, qh⟩ := hh
  unfold cutU at h6
  by_cases c : HT.sIx x.length 0 l = 0 ∧ HT.sIx x.length x.length u = x.length
  · rw [if_pos c] at h6; cases h6
  · rw [if_neg c] at h6
    cases h6
    refine wE_of (pe_slice sl_tup peW pl ph) (ha x h1 B M σ H _ i ok fun v B1 H1 g1 ⟨a, vs, e1, s1, p1⟩ => ql l h3 B1 M σ H1 _ (i.gr g1) (ok.mono g1.bb) fun B2 H2 g2 => qh u h5 B2 M σ H2 _ ((i.gr g1).gr g2) ((ok.mono g1.bb).mono g2.bb) fun B3 H3 g3 => ?_)
    have g := (g1.trans g2).trans g3
    refine ⟨a, vs, e1, same_tup (g1.bh.trans (g2.hh.trans g3.hh)) s1, by rw [← paired_len p1]; exact c, fun p hp => ?_⟩
    have g4 := Gr.alloc g.bh hp (o := .tup (cutV vs l u))
    exact q (.ref p) _ _ (g.trans g4) ⟨p, _, rfl, SqT.of upd_same, Paired.mapP (paired_cut p1 l u) fun x u r => τ.mono _ _ _ _ ((g2.bb.trans g3.bb).trans g4.bb) r⟩
/-! walks of tuples -/
def szG (xs : List α) : Option (List α) := if xs.length ≤ 16777216 then some xs else none
theorem pim_tups' {m : Option (List α)} (h : EVm X e Γ m (tTups X.K τ)) : PIm X tg e Γ (m.bind szG) τ := by
  refine pim_tups (m := m.bind szG) (fun x hx B M σ H Q i ok q => ?_) fun xs hx => ?_
  · obtain ⟨y, h1, h2⟩ := bind_of hx
    obtain ⟨_, e⟩ := ite_of h2
    subst e
    exact h y h1 B M σ H Q i ok q
  · obtain ⟨y, h1, h2⟩ := bind_of hx
    obtain ⟨hl, e⟩ := ite_of h2
    subst e
    rw [sizeLine_eq]
    exact hl
/-! an owned thing appended -/
theorem bl_appO {m : Option β} {get : β → List γ} {χ : γ → MO} {τ : Ty γ} {hf : ∀ x, (χ x).fr = τ.P x} {put : β → List γ → List Slot} {me : Option γ} {k : β → List γ → Option O} (hp : PTm X o Γ m get (mListO X.K χ τ hf) put) (he : EOm X e Γ me χ) (hr : ∀ y ys, BL X rest (put y ys) (k y ys) J)
    (hbase : attributeBase o "append" X.env (eval o X.env) = eval o X.env := by rfl)
    (hfew : ((backTo cpos (starEach [e] X.env)).all (fun x => !x.1) && (backToKw cpos (keywordEach [] X.env)).all (fun x => x.1.isSome) && decide ([e].length + ([] : List Keyword).length + (if ([] : List Keyword).isEmpty then 0 else 1) < 30)) = true := by rfl)
    (hline : (apos.endLine == cpos.line) = true := by rfl) (hs : starEach [e] X.env = (false, eval e X.env) :: starEach [] X.env := by rfl) (hplain : (backTo cpos (starEach [] X.env)).any (·.1) = false := by rfl)
    (hsw : swapsWith (.Call (.Attribute o "append" apos) [e] [] cpos) none pos.line X.env = pure false := by rfl) :
    BL X (.Expr (.Call (.Attribute o "append" apos) [e] [] cpos) pos :: rest) Γ (m.bind fun y => me.bind fun x => (appO (get y) x).bind fun ys => k y ys) J := fun oo ho B M σ H D inn ok kk => by
  obtain ⟨y, h1, h2⟩ := bind_of ho
  obtain ⟨x, h3, h4⟩ := bind_of h2
  obtain ⟨ys, h5, h6⟩ := bind_of h4
  obtain ⟨hl, rfl⟩ := ite_of h5
  refine wSs_cons (wS_of (ps_expr (pe_bm PySem.F.plainAttrs_list PySem.F.slot_list_append PySem.F.type_list_append mt_append peW (pa_cons peW pa_nil hs) hbase hfew hline hs hplain) hsw) (hp y h1 B M σ H _ inn ok fun v B1 H1 M1 M2 g1 em dj ⟨u, vs, N, ev, eN, dN, okv⟩ pb => ?_))
  subst ev eN
  have hu1 : H1 u = some (.lst vs) := g1.hh _ _ (inn.m _ _ (by rw [em]; exact un_l (un_l sing_same)))
  refine ⟨.inl ⟨rfl, _, SqL.of hu1⟩, he x h3 B1 M σ H1 _ (inn.gr g1) (ok.mono g1.bb) fun w B2 N0 H2 g2 n1 n2 r2 => ?_⟩
  have g := g1.trans g2
  have i2 := inn.gr g
  subst em
  have hu2 : H2 u = some (.lst vs) := g2.hh _ _ hu1
  have hvl : vs.length = (get y).length := by
    have := okv.len
    rw [owns_len, List.length_map] at this
    exact this.symm
  refine ⟨u, vs, w, rfl, rfl, hu2, by rw [hvl, sizeLine_eq]; exact hl, ?_⟩
  have i1 := inn.gr g1
  have dNM : Dj N0 (un (un (sing u (.lst vs)) N) M2) := fun a o h => by
    cases z : un (un (sing u (.lst vs)) N) M2 a with
    | none => rfl
    | some q => have := (n2 a o h).1; rw [i1.m a q z] at this; cases this
  have dNa : Dj N0 (sing u (.lst vs)) := (dNM.symm.un_l.un_l).symm
  have dNN : Dj N0 N := (dNM.symm.un_l.un_r dN).symm
  have dN2 : Dj N0 M2 := (dNM.symm.un_r dj).symm
  have eM : un N0 (un (un (sing u (.lst vs)) N) M2) = un (un (sing u (.lst vs)) (un N0 N)) M2 := by
    rw [← un_assoc, ← un_assoc, un_comm dNa, un_assoc (sing u _) N0 N]
  have da : Dj (sing u (.lst vs)) (un N0 N) := (Dj.un dNa dN.symm).symm
  have db : Dj (un (sing u (.lst vs)) (un N0 N)) M2 := Dj.un dj.un_l (Dj.un dN2 (dj.un_r dN))
  have i0 : In B2 (un N0 (un (un (sing u (.lst vs)) N) M2)) H2 := ⟨i2.b, same_un n1 i2.m, Dj.un (fun a o h => (n2 a o h).2) i2.dj⟩
  obtain ⟨i3, s3⟩ := In.upd (N := un N0 N) (o' := .lst (vs ++ [w])) (by rw [← eM]; exact i0) db da
  have ok3 := pb (get y ++ [x]) B2 (un (sing u (.lst (vs ++ [w]))) (un N0 N)) g2.bb (Dj.un (dj_sing dj.un_l) (Dj.un dN2 (dj.un_r dN))) ⟨u, vs ++ [w], un N0 N, rfl, rfl, dj_sing da, by
    unfold owns
    rw [List.map_append, List.map_append]
    exact OkS.snocO r2 (okv.mono g2.bb) dNN⟩
  refine hr y _ oo h6 B2 _ σ _ D i3 ok3 (kk.step ⟨g.bb, i3, fun b u' h nb => ?_, fun b u' h nb nm => g.new b u' h nb, fun b u' h nm => ?_⟩)
  · have hn0 : N0 b = none := by
      cases z : N0 b with
      | none => rfl
      | some q => have := (n2 b q z).1; rw [g1.hh b u' h] at this; cases this
    exact s3.fr b u' (g.hh b u' h) (by rw [← eM]; exact un_none.mpr ⟨hn0, nb⟩)
  · have hn0 : N0 b = none := by
      cases z : N0 b with
      | none => rfl
      | some q => have := (n2 b q z).1; rw [g1.hh b u' h] at this; cases this
    exact s3.newM b u' (g.hh b u' h) (by rw [← eM]; exact un_none.mpr ⟨hn0, nm⟩)
end
end G
namespace M
open PySem L2 G
structure Neuron where
  threshold : Int
  leak : Int
  refractory : Int
  floor : Int
  subtract : Bool
  deriving DecidableEq
abbrev n_Neuron : List Str := ["threshold", "leak", "refractory", "floor", "subtract"]
structure Synapse where
  source : Int
  target : Int
  weight : Int
  delay : Int
  plastic : Bool
  deriving DecidableEq
abbrev n_Synapse : List Str := ["source", "target", "weight", "delay", "plastic"]
structure Rule where
  gain : Int
  loss : Int
  window : Int
  least : Int
  most : Int
  deriving DecidableEq
abbrev n_Rule : List Str := ["gain", "loss", "window", "least", "most"]
structure Network where
  inputs : Int
  neurons : (List Neuron)
  synapses : (List Synapse)
  rule : (Option Rule)
  deriving DecidableEq
abbrev n_Network : List Str := ["inputs", "neurons", "synapses", "rule"]
structure Run where
  spikes : (List (List Int))
  weights : (List Int)
  deriving DecidableEq
abbrev n_Run : List Str := ["spikes", "weights"]
structure Cells where
  neurons : (List Neuron)
  synapses : (List Synapse)
  rule : (Option Rule)
  potentials : (List Int)
  rests : (List Int)
  last_spikes : (List (Option Int))
  weights : (List Int)
  last_arrivals : (List (Option Int))
  deriving DecidableEq
abbrev n_Cells : List Str := ["neurons", "synapses", "rule", "potentials", "rests", "last_spikes", "weights", "last_arrivals"]
def l_cell (script : (List Int)) (k : Int) : Option Int :=
  ((o2 (fun x y => some (decide (x < y))) (some k) ((some script).bind (fun xs => some (xs.length : Int)))).bind fun tz => if tz = true then ((o2 atI (some script) (some k)).bind (fun i => some i)) else (some (0 : Int)))
def Network_i (inputs : Int) (neurons : (List Neuron)) (synapses : (List Synapse)) (rule : (Option Rule)) : Option Network :=
  ((some inputs).bind fun (z0 : Int) => (((some neurons).bind (fun xs => some xs)).bind fun (z1 : (List Neuron)) => (((some synapses).bind (fun xs => some xs)).bind fun (z2 : (List Synapse)) => ((some rule).bind fun (z3 : (Option Rule)) => (some ⟨z0, z1, z2, z3⟩)))))
def Neuron_i (threshold : Int) (leak : Int) (refractory : Int) (floor : Int) (subtract : Bool) : Option Neuron :=
  ((some threshold).bind fun (z0 : Int) => ((some leak).bind fun (z1 : Int) => ((some refractory).bind fun (z2 : Int) => ((some floor).bind fun (z3 : Int) => ((some subtract).bind fun (z4 : Bool) => (some ⟨z0, z1, z2, z3, z4⟩))))))
def l_neuron (cell_here : Int) : Option Neuron :=
  ((o2 (fun x y => some (x + y)) (some (1 : Int)) (o2 modG (some cell_here) (some (12 : Int)))).bind fun (high : Int) => ((o2 (fun x y => some (decide (x = y))) (o2 modG (some cell_here) (some (31 : Int))) (some (5 : Int))).bind fun tz => (if tz = true then ((o2 (fun x y => some (x + y)) (some (1 : Int)) (o2 modG (o2 divG (some cell_here) (some (31 : Int))) (some (1048576 : Int)))).bind fun (high : Int) => (some high)) else (some high)).bind fun (s1 : Int) => ((o2 modG (o2 divG (some cell_here) (some (12 : Int))) (some (4 : Int))).bind fun (lost : Int) => ((o2 (fun x y => some (decide (x = y))) (o2 modG (o2 divG (some cell_here) (some (48 : Int))) (some (9 : Int))) (some (1 : Int))).bind fun tz => (if tz = true then ((o2 modG (o2 divG (some cell_here) (some (432 : Int))) (some (16 : Int))).bind fun (lost : Int) => (some lost)) else (some lost)).bind fun (s2 : Int) => ((a2 (some s1) (a2 (some s2) (a2 (o2 modG (o2 divG (some cell_here) (some (5000 : Int))) (some (4 : Int))) (a2 (o1 (fun i => -i) (o2 modG (o2 divG (some cell_here) (some (20000 : Int))) (some (20 : Int)))) (o2 (fun x y => some (decide (x = y))) (o2 modG (o2 divG (some cell_here) (some (400000 : Int))) (some (2 : Int))) (some (1 : Int))))))).bind (fun p => Neuron_i p.1 p.2.1 p.2.2.1 p.2.2.2.1 p.2.2.2.2))))))
def Rule_i (gain : Int) (loss : Int) (window : Int) (least : Int) (most : Int) : Option Rule :=
  ((some gain).bind fun (z0 : Int) => ((some loss).bind fun (z1 : Int) => ((some window).bind fun (z2 : Int) => ((some least).bind fun (z3 : Int) => ((some most).bind fun (z4 : Int) => (some ⟨z0, z1, z2, z3, z4⟩))))))
def Synapse_i (source : Int) (target : Int) (weight : Int) (delay : Int) (plastic : Bool) : Option Synapse :=
  ((some source).bind fun (z0 : Int) => ((some target).bind fun (z1 : Int) => ((some weight).bind fun (z2 : Int) => ((some delay).bind fun (z3 : Int) => ((some plastic).bind fun (z4 : Bool) => (some ⟨z0, z1, z2, z3, z4⟩))))))
def l_synapse (cell_here : Int) (sources : Int) (many : Int) (learns : Bool) : Option Synapse :=
  ((o2 (fun x y => some (x + y)) (some (1 : Int)) (o2 modG (o2 divG (some cell_here) (some (5000 : Int))) (some (4 : Int)))).bind fun (lag : Int) => ((o2 (fun x y => some (decide (x = y))) (o2 modG (some cell_here) (some (13 : Int))) (some (7 : Int))).bind fun tz => (if tz = true then ((o2 (fun x y => some (x + y)) (some (1 : Int)) (o2 modG (o2 divG (some cell_here) (some (5000 : Int))) (some (15 : Int)))).bind fun (lag : Int) => (some lag)) else (some lag)).bind fun (s1 : Int) => ((o2 (fun x y => some (x - y)) (o2 modG (o2 divG (some cell_here) (some (200 : Int))) (some (17 : Int))) (some (5 : Int))).bind fun (heavy : Int) => ((a2 (o2 modG (some cell_here) (some sources)) (a2 (o2 modG (o2 divG (some cell_here) (some (10 : Int))) (some many)) (a2 (some heavy) (a2 (some s1) (andO (some learns) (o2 (fun x y => some (decide (x = y))) (o2 modG (o2 divG (some cell_here) (some (80000 : Int))) (some (2 : Int))) (some (1 : Int)))))))).bind (fun p => Synapse_i p.1 p.2.1 p.2.2.1 p.2.2.2.1 p.2.2.2.2)))))
def l_network_b1 (script : (List Int)) (learns : Bool) (inputs : Int) (many : Int) (synapses : (List Synapse)) (k : Int) : Option ((List Synapse)) :=
  ((some synapses).bind fun b1 => ((a2 ((o2 atI (some script) (some k)).bind (fun i => some i)) (a2 (o2 (fun x y => some (x + y)) (some inputs) (some many)) (a2 (some many) (some learns)))).bind (fun p => l_synapse p.1 p.2.1 p.2.2.1 p.2.2.2)).bind fun x => (appO b1 x).bind fun (synapses2 : (List Synapse)) => (some synapses2))
def l_network (script : (List Int)) (learns : Bool) : Option Network :=
  (((a2 (some script) (some (0 : Int))).bind (fun p => l_cell p.1 p.2)).bind fun (shape : Int) => ((o2 (fun x y => some (x + y)) (some (1 : Int)) (o2 modG (some shape) (some (3 : Int)))).bind fun (inputs : Int) => ((o2 (fun x y => some (x + y)) (some (1 : Int)) (o2 modG (o2 divG (some shape) (some (3 : Int))) (some (5 : Int)))).bind fun (many : Int) => ((((some many).bind rngG).bind fun xs => compO (fun _ => some true) (fun k => (((a2 (some script) (o2 (fun x y => some (x + y)) (some (2 : Int)) (some k))).bind (fun p => l_cell p.1 p.2)).bind (fun p => l_neuron p))) xs).bind fun (neurons : (List Neuron)) => ((some []).bind fun (synapses : (List Synapse)) => ((o2 rngG2 (some (7 : Int)) ((a2 (some (23 : Int)) ((some script).bind (fun xs => some (xs.length : Int)))).bind (fun p => some (if p.2 < p.1 then p.2 else p.1)))).bind fun xs => (foldO (fun (ls1 : (List Synapse)) lx1 => l_network_b1 script learns inputs many ls1 lx1) synapses xs).bind fun (s1 : (List Synapse)) => ((some none).bind fun (rule : (Option Rule)) => ((andO (some learns) (o2 (fun x y => some (decide (y < x))) (o2 modG (o2 divG (some shape) (some (15 : Int))) (some (4 : Int))) (some (0 : Int)))).bind fun tz => (if tz = true then (((a2 (some script) (some (1 : Int))).bind (fun p => l_cell p.1 p.2)).bind fun (cell_here : Int) => ((o1 some ((a2 (o2 modG (some cell_here) (some (5 : Int))) (a2 (o2 modG (o2 divG (some cell_here) (some (5 : Int))) (some (5 : Int))) (a2 (o2 (fun x y => some (x + y)) (o2 modG (o2 divG (some cell_here) (some (25 : Int))) (some (9 : Int))) (o2 mulG (some (30 : Int)) (o2 modG (o2 divG (some cell_here) (some (20000 : Int))) (some (3 : Int))))) (a2 (o2 (fun x y => some (x - y)) (o1 (fun i => -i) (some (8 : Int))) (o2 modG (o2 divG (some cell_here) (some (225 : Int))) (some (9 : Int)))) (o2 (fun x y => some (x + y)) (some (11 : Int)) (o2 modG (o2 divG (some cell_here) (some (2025 : Int))) (some (9 : Int)))))))).bind (fun p => Rule_i p.1 p.2.1 p.2.2.1 p.2.2.2.1 p.2.2.2.2))).bind fun (rule : (Option Rule)) => (some rule))) else (some rule)).bind fun (s2 : (Option Rule)) => ((a2 (some inputs) (a2 (some neurons) (a2 (some s1) (some s2)))).bind (fun p => Network_i p.1 p.2.1 p.2.2.1 p.2.2.2))))))))))
def l_stimuli_b1 (script : (List Int)) (inputs : Int) (stimuli_here : (List (List Int))) (k : Int) : Option ((List (List Int))) :=
  ((some stimuli_here).bind fun b1 => (((some inputs).bind rngG).bind fun xs => compO (fun j => (o2 (fun x y => some (decide (x = y))) (o2 modG (o2 divG ((o2 atI (some script) (some k)).bind (fun i => some i)) (o2 shlG (some (1 : Int)) (some j))) (some (2 : Int))) (some (1 : Int)))) (fun j => (some j)) xs).bind fun x => (appO b1 x).bind fun (stimuli_here2 : (List (List Int))) => (some stimuli_here2))
def l_stimuli (script : (List Int)) (inputs : Int) : Option (List (List Int)) :=
  ((some []).bind fun (stimuli_here : (List (List Int))) => ((o2 rngG2 (some (23 : Int)) ((a2 (some (47 : Int)) ((some script).bind (fun xs => some (xs.length : Int)))).bind (fun p => some (if p.2 < p.1 then p.2 else p.1)))).bind fun xs => (foldO (fun (ls1 : (List (List Int))) lx1 => l_stimuli_b1 script inputs ls1 lx1) stimuli_here xs).bind fun (s1 : (List (List Int))) => (some s1)))
def p_initial_state (network : Network) : Option ((List Int) × (List Int) × (List (List Int))) :=
  ((((o1 Network.neurons (some network)).bind fun xs => compO (fun _ => some true) (fun neuron => (some (0 : Int))) xs).bind (fun xs => some xs)).bind fun (zeros : (List Int)) => (a2 (some zeros) (a2 (some zeros) ((((some (15 : Int)).bind rngG).bind fun xs => compO (fun _ => some true) (fun k => (some zeros)) xs).bind (fun xs => some xs)))))
def l_claims (script : (List Int)) (network_here : Network) : Option (List (List SI)) :=
  (((a2 (some script) (some (47 : Int))).bind (fun p => l_cell p.1 p.2)).bind fun (cell_here : Int) => (((o1 Network.neurons (some network_here)).bind (fun xs => some (xs.length : Int))).bind fun (many : Int) => ((o2 (fun x xs => some (x :: xs)) (o1 (fun (p : (Str × Int)) => [SI.s p.1, SI.i p.2]) (a2 (some ("never" : Str)) (o2 modG (some cell_here) (some many)))) (o2 (fun x xs => some (x :: xs)) (o1 (fun (p : (Str × Int × Int × Int)) => [SI.s p.1, SI.i p.2.1, SI.i p.2.2.1, SI.i p.2.2.2]) (a2 (some ("answer" : Str)) (a2 (o2 modG (o2 divG (some cell_here) (some (5 : Int))) (o1 Network.inputs (some network_here))) (a2 (o2 modG (o2 divG (some cell_here) (some (15 : Int))) (some many)) (o2 (fun x y => some (x + y)) (some (1 : Int)) (o2 modG (o2 divG (some cell_here) (some (75 : Int))) (some (6 : Int)))))))) (some []))).bind fun (claims_here : (List (List SI))) => ((o2 (fun x y => some (decide (y < x))) (some many) (some (1 : Int))).bind fun tz => (if tz = true then ((o2 modG (o2 divG (some cell_here) (some (450 : Int))) (some many)).bind fun (first : Int) => ((some claims_here).bind fun b1 => (o1 (fun (p : (Str × Int × Int)) => [SI.s p.1, SI.i p.2.1, SI.i p.2.2]) (a2 (some ("apart" : Str)) (a2 (some first) (o2 modG (o2 (fun x y => some (x + y)) (o2 (fun x y => some (x + y)) (some first) (some (1 : Int))) (o2 modG (o2 divG (some cell_here) (some (2250 : Int))) (o2 (fun x y => some (x - y)) (some many) (some (1 : Int))))) (some many))))).bind fun x => (appO b1 x).bind fun (claims_here2 : (List (List SI))) => (some claims_here2))) else (some claims_here)).bind fun (s1 : (List (List SI))) => (some s1)))))
def Cells_i (neurons : (List Neuron)) (synapses : (List Synapse)) (rule : (Option Rule)) : Option Cells :=
  ((some neurons).bind fun (z0 : (List Neuron)) => ((some synapses).bind fun (z1 : (List Synapse)) => ((some rule).bind fun (z2 : (Option Rule)) => ((o2 repG (o2 (fun x xs => some (x :: xs)) (some (0 : Int)) (some [])) ((some neurons).bind (fun xs => some (xs.length : Int)))).bind fun (z3 : (List Int)) => ((o2 repG (o2 (fun x xs => some (x :: xs)) (some (0 : Int)) (some [])) ((some neurons).bind (fun xs => some (xs.length : Int)))).bind fun (z4 : (List Int)) => ((o2 repG (o2 (fun x xs => some (x :: xs)) (some none) (some [])) ((some neurons).bind (fun xs => some (xs.length : Int)))).bind fun (z5 : (List (Option Int))) => (((some synapses).bind fun xs => compO (fun _ => some true) (fun synapse => (o1 Synapse.weight (some synapse))) xs).bind fun (z6 : (List Int)) => ((o2 repG (o2 (fun x xs => some (x :: xs)) (some none) (some [])) ((some synapses).bind (fun xs => some (xs.length : Int)))).bind fun (z7 : (List (Option Int))) => (some ⟨z0, z1, z2, z3, z4, z5, z6, z7⟩)))))))))
def Run_i (spikes : (List (List Int))) (weights : (List Int)) : Option Run :=
  ((some spikes).bind fun (z0 : (List (List Int))) => ((some weights).bind fun (z1 : (List Int)) => (some ⟨z0, z1⟩)))
def p_recent (rule : Rule) (last : (Option Int)) (tick : Int) : Option Bool :=
  (andO (o1 Option.isSome (some last)) (o2 (fun x y => some (decide (x ≤ y))) (o2 (fun x y => some (x - y)) (some tick) ((some last).bind fun z => z)) (o1 Rule.window (some rule))))
def p_depressed (rule : Rule) (weight : Int) : Option Int :=
  ((a2 (o1 Rule.least (some rule)) (o2 (fun x y => some (x - y)) (some weight) (o1 Rule.loss (some rule)))).bind (fun p => some (if p.2 > p.1 then p.2 else p.1)))
def Cells_arrive_b1 (tick : Int) (self : Cells) (sums : (List Int)) (k : Int) : Option (Cells × (List Int)) :=
  ((o2 atI (o1 (fun b => b.synapses) (some self)) (some k)).bind fun (synapse : Synapse) => ((some sums).bind fun b1 => (o1 Synapse.target (some synapse)).bind fun kk => (atI b1 kk).bind fun old => ((some self).bind fun y => (some k).bind fun k => atI y.weights k).bind fun x => (setO b1 kk ((fun i j => i + j) old x)).bind fun (sums2 : (List Int)) => ((o1 some (some tick)).bind fun x => (some self).bind fun b3 => (some k).bind fun kx => (setO b3.last_arrivals kx x).bind fun (self4 : (List (Option Int))) => ((andO (o1 Option.isSome (o1 (fun b => b.rule) (some { b3 with last_arrivals := self4 }))) (o1 Synapse.plastic (some synapse))).bind fun tz => if tz = true then (((a2 ((o1 (fun b => b.rule) (some { b3 with last_arrivals := self4 })).bind fun z => z) (a2 ((some { b3 with last_arrivals := self4 }).bind fun y => (o1 Synapse.target (some synapse)).bind fun k => atI y.last_spikes k) (some tick))).bind (fun p => p_recent p.1 p.2.1 p.2.2)).bind fun tz => if tz = true then (((a2 ((o1 (fun b => b.rule) (some { b3 with last_arrivals := self4 })).bind fun z => z) ((some { b3 with last_arrivals := self4 }).bind fun y => (some k).bind fun k => atI y.weights k)).bind (fun p => p_depressed p.1 p.2)).bind fun x => (some { b3 with last_arrivals := self4 }).bind fun b5 => (some k).bind fun kx => (setO b5.weights kx x).bind fun (self6 : (List Int)) => (some ({ b5 with weights := self6 }, sums2))) else (some ({ b3 with last_arrivals := self4 }, sums2))) else (some ({ b3 with last_arrivals := self4 }, sums2))))))
def Cells_arrive (self : Cells) (tick : Int) (arriving : (List Int)) : Option (Cells × (List Int)) :=
  ((o2 repG (o2 (fun x xs => some (x :: xs)) (some (0 : Int)) (some [])) ((o1 (fun b => b.neurons) (some self)).bind (fun xs => some (xs.length : Int)))).bind fun (sums : (List Int)) => ((some arriving).bind fun xs => (foldO (fun (ls1 : Cells × (List Int)) lx1 => Cells_arrive_b1 tick ls1.1 ls1.2 lx1) (self, sums) xs).bind fun (s1 : Cells × (List Int)) => ((some s1.2).bind fun y => some (s1.1, y))))
def p_step (neuron : Neuron) (potential : Int) (rest_ : Int) (incoming : Int) : Option (Int × Int × Bool) :=
  ((o2 (fun x y => some (decide (y < x))) (o1 Neuron.leak (some neuron)) (some (0 : Int))).bind fun tz => (if tz = true then ((o2 (fun x y => some (x - y)) (some potential) (o2 shrG (some potential) (o1 Neuron.leak (some neuron)))).bind fun (potential : Int) => (some potential)) else (some potential)).bind fun (s1 : Int) => (((a2 (o1 Neuron.floor (some neuron)) (o2 (fun x y => some (x + y)) (some s1) (some incoming))).bind (fun p => some (if p.2 > p.1 then p.2 else p.1))).bind fun (potential : Int) => ((o2 (fun x y => some (decide (y < x))) (some rest_) (some (0 : Int))).bind fun tz => if tz = true then (a2 (some potential) (a2 (o2 (fun x y => some (x - y)) (some rest_) (some (1 : Int))) (some false))) else ((o2 (fun x y => some (decide (x < y))) (some potential) (o1 Neuron.threshold (some neuron))).bind fun tz => if tz = true then (a2 (some potential) (a2 (some (0 : Int)) (some false))) else ((o1 Neuron.subtract (some neuron)).bind fun tz => if tz = true then (a2 (o2 (fun x y => some (x - y)) (some potential) (o1 Neuron.threshold (some neuron))) (a2 (o1 Neuron.refractory (some neuron)) (some true))) else (a2 (some (0 : Int)) (a2 (o1 Neuron.refractory (some neuron)) (some true))))))))
def Cells_fire_b1 (sums : (List Int)) (self : Cells) (fired : (List Int)) (n : Int) : Option (Cells × (List Int)) :=
  (((a2 (o2 atI (o1 (fun b => b.neurons) (some self)) (some n)) (a2 ((some self).bind fun y => (some n).bind fun k => atI y.potentials k) (a2 ((some self).bind fun y => (some n).bind fun k => atI y.rests k) (o2 atI (some sums) (some n))))).bind (fun p => p_step p.1 p.2.1 p.2.2.1 p.2.2.2)).bind fun z => ((some z.1).bind fun x => (some self).bind fun b1 => (some n).bind fun kx => (setO b1.potentials kx x).bind fun (self2 : (List Int)) => ((some z.2.1).bind fun x => (some { b1 with potentials := self2 }).bind fun b3 => (some n).bind fun kx => (setO b3.rests kx x).bind fun (self4 : (List Int)) => ((some z.2.2).bind fun tz => if tz = true then ((some fired).bind fun b5 => (some n).bind fun x => (appO b5 x).bind fun (fired6 : (List Int)) => (some ({ b3 with rests := self4 }, fired6))) else (some ({ b3 with rests := self4 }, fired))))))
def Cells_fire (self : Cells) (sums : (List Int)) : Option (Cells × (List Int)) :=
  ((some []).bind fun (fired : (List Int)) => ((((o1 (fun b => b.neurons) (some self)).bind (fun xs => some (xs.length : Int))).bind rngG).bind fun xs => (foldO (fun (ls1 : Cells × (List Int)) lx1 => Cells_fire_b1 sums ls1.1 ls1.2 lx1) (self, fired) xs).bind fun (s1 : Cells × (List Int)) => ((some s1.2).bind fun y => some (s1.1, y))))
def p_potentiated (rule : Rule) (weight : Int) : Option Int :=
  ((a2 (o1 Rule.most (some rule)) (o2 (fun x y => some (x + y)) (some weight) (o1 Rule.gain (some rule)))).bind (fun p => some (if p.2 < p.1 then p.2 else p.1)))
def Cells_learn_b1 (tick : Int) (self : Cells) (n : Int) : Option (Cells) :=
  ((o1 some (some tick)).bind fun x => (some self).bind fun b1 => (some n).bind fun kx => (setO b1.last_spikes kx x).bind fun (self2 : (List (Option Int))) => (some { b1 with last_spikes := self2 }))
def Cells_learn_b2 (tick : Int) (fired : (List Int)) (self : Cells) (k : Int) : Option (Cells) :=
  ((o2 atI (o1 (fun b => b.synapses) (some self)) (some k)).bind fun (synapse : Synapse) => ((andO (o1 Synapse.plastic (some synapse)) (o2 (fun x ys => some (decide (x ∈ ys))) (o1 Synapse.target (some synapse)) (some fired))).bind fun tz => if tz = true then (((a2 ((o1 (fun b => b.rule) (some self)).bind fun z => z) (a2 ((some self).bind fun y => (some k).bind fun k => atI y.last_arrivals k) (some tick))).bind (fun p => p_recent p.1 p.2.1 p.2.2)).bind fun tz => if tz = true then (((a2 ((o1 (fun b => b.rule) (some self)).bind fun z => z) ((some self).bind fun y => (some k).bind fun k => atI y.weights k)).bind (fun p => p_potentiated p.1 p.2)).bind fun x => (some self).bind fun b3 => (some k).bind fun kx => (setO b3.weights kx x).bind fun (self4 : (List Int)) => (some { b3 with weights := self4 })) else (some self)) else (some self)))
def Cells_learn (self : Cells) (tick : Int) (fired : (List Int)) : Option (Cells × Unit) :=
  ((some fired).bind fun xs => (foldO (fun (ls1 : Cells) lx1 => Cells_learn_b1 tick ls1 lx1) self xs).bind fun (s1 : Cells) => ((o1 Option.isNone (o1 (fun b => b.rule) (some s1))).bind fun tz => if tz = true then ((some ()).bind fun y => some (s1, y)) else ((((o1 (fun b => b.synapses) (some s1)).bind (fun xs => some (xs.length : Int))).bind rngG).bind fun xs => (foldO (fun (ls2 : Cells) lx2 => Cells_learn_b2 tick fired ls2 lx2) s1 xs).bind fun (s2 : Cells) => (some (s2, ())))))
def Cells_tick (self : Cells) (tick : Int) (arriving : (List Int)) : Option (Cells × (List Int)) :=
  (((some self).bind fun y => (a2 (some tick) (some arriving)).bind fun x => (Cells_arrive y x.1 x.2).bind fun r => some (y, r)).bind fun r1 => (((some r1.2.1).bind fun y => (some r1.2.2).bind fun x => (Cells_fire y x).bind fun r => some (y, r)).bind fun r2 => (((some r2.2.1).bind fun y => (a2 (some tick) (some r2.2.2)).bind fun x => (Cells_learn y x.1 x.2).bind fun r => some (y, r)).bind fun r3 => ((some r2.2.2).bind fun y => some (r3.2.1, y)))))
def p_run_b2 (network : Network) (history : (List (List Int))) (tick : Int) (arriving : (List Int)) (k : Int) : Option ((List Int)) :=
  ((o2 atI (o1 Network.synapses (some network)) (some k)).bind fun (synapse : Synapse) => ((andO (o2 (fun x y => some (decide (x ≤ y))) (o1 Synapse.delay (some synapse)) (some tick)) (o2 (fun x ys => some (decide (x ∈ ys))) (o1 Synapse.source (some synapse)) ((some history).bind fun y => (o2 (fun x y => some (x - y)) (some tick) (o1 Synapse.delay (some synapse))).bind fun k => atI y k))).bind fun tz => if tz = true then ((some arriving).bind fun b1 => (some k).bind fun x => (appO b1 x).bind fun (arriving2 : (List Int)) => (some arriving2)) else (some arriving)))
def p_run_b1 (network : Network) (stimuli : (List (List Int))) (cells : Cells) (history : (List (List Int))) (spikes : (List (List Int))) (tick : Int) : Option (Cells × (List (List Int)) × (List (List Int))) :=
  ((some []).bind fun (arriving : (List Int)) => ((((o1 Network.synapses (some network)).bind (fun xs => some (xs.length : Int))).bind rngG).bind fun xs => (foldO (fun (ls2 : (List Int)) lx2 => p_run_b2 network history tick ls2 lx2) arriving xs).bind fun (s1 : (List Int)) => (((some cells).bind fun y => (a2 (some tick) (some s1)).bind fun x => (Cells_tick y x.1 x.2).bind fun r => some (y, r)).bind fun r3 => ((some spikes).bind fun b4 => (some r3.2.2).bind fun x => (appO b4 x).bind fun (spikes5 : (List (List Int))) => ((some history).bind fun b6 => (o2 catG (o2 atI (some stimuli) (some tick)) ((some r3.2.2).bind fun xs => compO (fun _ => some true) (fun n => (o2 (fun x y => some (x + y)) (o1 Network.inputs (some network)) (some n))) xs)).bind fun x => (appO b6 x).bind fun (history7 : (List (List Int))) => (some (r3.2.1, history7, spikes5)))))))
def p_run (network : Network) (stimuli : (List (List Int))) : Option Run :=
  (((a2 (o1 Network.neurons (some network)) (a2 (o1 Network.synapses (some network)) (o1 Network.rule (some network)))).bind (fun p => Cells_i p.1 p.2.1 p.2.2)).bind fun (cells : Cells) => ((some []).bind fun (history : (List (List Int))) => ((some []).bind fun (spikes : (List (List Int))) => ((((some stimuli).bind (fun xs => some (xs.length : Int))).bind rngG).bind fun xs => (foldO (fun (ls1 : Cells × (List (List Int)) × (List (List Int))) lx1 => p_run_b1 network stimuli ls1.1 ls1.2.1 ls1.2.2 lx1) (cells, history, spikes) xs).bind fun (s2 : Cells × (List (List Int)) × (List (List Int))) => ((a2 (some s2.2.2) (o1 Cells.weights (some s2.1))).bind (fun p => Run_i p.1 p.2))))))
def p_advance_b1 (network : Network) (state : ((List Int) × (List Int) × (List (List Int)))) (potentials : (List Int)) (rests : (List Int)) (fired : (List Int)) (n : Int) : Option ((List Int) × (List Int) × (List Int)) :=
  (((a2 (o2 atI (o1 Network.neurons (some network)) (some n)) (a2 (o2 atI (o1 (fun (z : ((List Int) × (List Int) × (List (List Int)))) => z.1) (some state)) (some n)) (a2 (o2 atI (o1 (fun (z : ((List Int) × (List Int) × (List (List Int)))) => z.2.1) (some state)) (some n)) (o2 atI (o2 atI (o1 (fun (z : ((List Int) × (List Int) × (List (List Int)))) => z.2.2) (some state)) (some (0 : Int))) (some n))))).bind (fun p => p_step p.1 p.2.1 p.2.2.1 p.2.2.2)).bind fun z => ((some potentials).bind fun b1 => (some z.1).bind fun x => (appO b1 x).bind fun (potentials2 : (List Int)) => ((some rests).bind fun b3 => (some z.2.1).bind fun x => (appO b3 x).bind fun (rests4 : (List Int)) => ((some z.2.2).bind fun tz => if tz = true then ((some fired).bind fun b5 => (some n).bind fun x => (appO b5 x).bind fun (fired6 : (List Int)) => (some (potentials2, rests4, fired6))) else (some (potentials2, rests4, fired))))))
def p_advance_b2 (sources : (List Int)) (pending : (List (List Int))) (synapse : Synapse) : Option ((List (List Int))) :=
  ((o2 (fun x ys => some (decide (x ∈ ys))) (o1 Synapse.source (some synapse)) (some sources)).bind fun tz => if tz = true then (((some pending).bind fun y => (o2 (fun x y => some (x - y)) (o1 Synapse.delay (some synapse)) (some (1 : Int))).bind fun k => (atJ y k).bind fun jx => some (y, jx)).bind fun b9 => (o1 Synapse.target (some synapse)).bind fun kk => (atI b9.2.2 kk).bind fun old => (o1 Synapse.weight (some synapse)).bind fun x => (setO b9.2.2 kk ((fun i j => i + j) old x)).bind fun (pending10 : (List Int)) => (some (b9.1.set b9.2.1 pending10))) else (some pending))
def p_advance (network : Network) (state : ((List Int) × (List Int) × (List (List Int)))) (stimulus : (List Int)) : Option (((List Int) × (List Int) × (List (List Int))) × (List Int)) :=
  ((some []).bind fun (potentials : (List Int)) => ((some []).bind fun (rests : (List Int)) => ((some []).bind fun (fired : (List Int)) => ((((o1 Network.neurons (some network)).bind (fun xs => some (xs.length : Int))).bind rngG).bind fun xs => (foldO (fun (ls1 : (List Int) × (List Int) × (List Int)) lx1 => p_advance_b1 network state ls1.1 ls1.2.1 ls1.2.2 lx1) (potentials, rests, fired) xs).bind fun (s1 : (List Int) × (List Int) × (List Int)) => ((((o3 cutU (o1 (fun (z : ((List Int) × (List Int) × (List (List Int)))) => z.2.2) (some state)) (o1 some (some (1 : Int))) (some none)).bind szG).bind fun xs => compO (fun _ => some true) (fun sums => ((some sums).bind (fun xs => some xs))) xs).bind fun (pending : (List (List Int))) => ((some pending).bind fun b7 => ((o1 Network.neurons (some network)).bind fun xs => compO (fun _ => some true) (fun neuron => (some (0 : Int))) xs).bind fun x => (appO b7 x).bind fun (pending8 : (List (List Int))) => ((o2 catG (some stimulus) ((some s1.2.2).bind fun xs => compO (fun _ => some true) (fun n => (o2 (fun x y => some (x + y)) (o1 Network.inputs (some network)) (some n))) xs)).bind fun (sources : (List Int)) => ((o1 Network.synapses (some network)).bind fun xs => (foldO (fun (ls2 : (List (List Int))) lx2 => p_advance_b2 sources ls2 lx2) pending8 xs).bind fun (s2 : (List (List Int))) => ((a2 ((some s1.1).bind (fun xs => some xs)) (a2 ((some s1.2.1).bind (fun xs => some xs)) (((some s2).bind fun xs => compO (fun _ => some true) (fun sums => ((some sums).bind (fun xs => some xs))) xs).bind (fun xs => some xs)))).bind fun (after : ((List Int) × (List Int) × (List (List Int)))) => (a2 (some after) (some s1.2.2)))))))))))
def p_stimulus_of (network : Network) (number : Int) : Option (List Int) :=
  (((o1 Network.inputs (some network)).bind rngG).bind fun xs => compO (fun k => (o2 (fun x y => some (decide (x = y))) (o2 (fun x y => some (Builtin.bitAnd x y)) (o2 shrG (some number) (some k)) (some (1 : Int))) (some (1 : Int)))) (fun k => (some k)) xs)
def l_breaks_b1 (claim : (List SI)) (spikes : (List (List Int)))  (k : Int) : Option ((Lp (Unit) Bool)) :=
  ((o2 (fun x ys => some (decide (x ∈ ys))) ((o2 atI (some claim) (some (2 : Int))).bind SI.int) (o2 atI (some spikes) (some k))).bind fun tz => if tz = true then ((some false).bind fun y => some (.rt y)) else (some (.nx ())))
def l_breaks (claim : (List SI)) (stimuli_here : (List (List Int))) (spikes : (List (List Int))) (t : Int) : Option Bool :=
  ((o2 (fun x y => some (decide (x = y))) ((o2 atI (some claim) (some (0 : Int))).bind SI.str) (some ("never" : Str))).bind fun tz => if tz = true then (o2 (fun x ys => some (decide (x ∈ ys))) ((o2 atI (some claim) (some (1 : Int))).bind SI.int) (o2 atI (some spikes) (some t))) else ((o2 (fun x y => some (decide (x = y))) ((o2 atI (some claim) (some (0 : Int))).bind SI.str) (some ("apart" : Str))).bind fun tz => if tz = true then (andO (o2 (fun x ys => some (decide (x ∈ ys))) ((o2 atI (some claim) (some (1 : Int))).bind SI.int) (o2 atI (some spikes) (some t))) (o2 (fun x ys => some (decide (x ∈ ys))) ((o2 atI (some claim) (some (2 : Int))).bind SI.int) (o2 atI (some spikes) (some t)))) else ((o2 (fun x y => some (x - y)) (some t) ((o2 atI (some claim) (some (3 : Int))).bind SI.int)).bind fun (start : Int) => ((orO (o2 (fun x y => some (decide (x < y))) (some start) (some (0 : Int))) (o2 (fun x ys => some (!decide (x ∈ ys))) ((o2 atI (some claim) (some (1 : Int))).bind SI.int) (o2 atI (some stimuli_here) (some start)))).bind fun tz => if tz = true then (some false) else ((o2 rngG2 (o2 (fun x y => some (x + y)) (some start) (some (1 : Int))) (o2 (fun x y => some (x + y)) (some t) (some (1 : Int)))).bind fun xs => (forO (fun (ls1 : Unit) lx1 => l_breaks_b1 claim spikes  lx1) () xs).bind fun l => rsB l (fun (s1 : Unit) => (some true)) (fun r => r))))))
def p_is_broken (claim : (List SI)) (watch : Int) (spikes : (List Int)) : Option Bool :=
  ((o2 (fun x y => some (decide (x = y))) ((o2 atI (some claim) (some (0 : Int))).bind SI.str) (some ("never" : Str))).bind fun tz => if tz = true then (o2 (fun x ys => some (decide (x ∈ ys))) ((o2 atI (some claim) (some (1 : Int))).bind SI.int) (some spikes)) else ((o2 (fun x y => some (decide (x = y))) ((o2 atI (some claim) (some (0 : Int))).bind SI.str) (some ("apart" : Str))).bind fun tz => if tz = true then (andO (o2 (fun x ys => some (decide (x ∈ ys))) ((o2 atI (some claim) (some (1 : Int))).bind SI.int) (some spikes)) (o2 (fun x ys => some (decide (x ∈ ys))) ((o2 atI (some claim) (some (2 : Int))).bind SI.int) (some spikes))) else (andO (o2 (fun x y => some (decide (x = y))) (some watch) (some (1 : Int))) (o2 (fun x ys => some (!decide (x ∈ ys))) ((o2 atI (some claim) (some (2 : Int))).bind SI.int) (some spikes)))))
def p_next_watch (claim : (List SI)) (watch : Int) (stimulus : (List Int)) (spikes : (List Int)) : Option Int :=
  ((o2 (fun x y => some (!decide (x = y))) ((o2 atI (some claim) (some (0 : Int))).bind SI.str) (some ("answer" : Str))).bind fun tz => if tz = true then (some (0 : Int)) else ((o2 (fun x y => some (decide (y < x))) (some watch) (some (0 : Int))).bind fun tz => (if tz = true then (((o2 (fun x ys => some (decide (x ∈ ys))) ((o2 atI (some claim) (some (2 : Int))).bind SI.int) (some spikes)).bind fun k => if k = true then (some (0 : Int)) else (o2 (fun x y => some (x - y)) (some watch) (some (1 : Int)))).bind fun (watch : Int) => (some watch)) else (some watch)).bind fun (s1 : Int) => ((andO (o2 (fun x y => some (decide (x = y))) (some s1) (some (0 : Int))) (o2 (fun x ys => some (decide (x ∈ ys))) ((o2 atI (some claim) (some (1 : Int))).bind SI.int) (some stimulus))).bind fun tz => (if tz = true then (((o2 atI (some claim) (some (3 : Int))).bind SI.int).bind fun (watch : Int) => (some watch)) else (some s1)).bind fun (s2 : Int) => (some s2))))
def law_m_b2 (stimuli_here : (List (List Int))) (spikes : (List (List Int))) (claims_here : (List (List SI))) (t : Int) (watches : (List Int)) (broken : (List Bool)) (k : Int) : Option ((Lp ((List Int) × (List Bool)) Bool)) :=
  (((a2 (o2 atI (some claims_here) (some k)) (a2 (some stimuli_here) (a2 (some spikes) (some t)))).bind (fun p => l_breaks p.1 p.2.1 p.2.2.1 p.2.2.2)).bind fun (due : Bool) => (((a2 (o2 atI (some claims_here) (some k)) (a2 ((some watches).bind fun y => (some k).bind fun k => atI y k) ((o2 atI (some spikes) (some t)).bind (fun xs => some xs)))).bind (fun p => p_is_broken p.1 p.2.1 p.2.2)).bind fun (told : Bool) => ((andO (o1 (! ·) ((some broken).bind fun y => (some k).bind fun k => atI y k)) (orO (o1 (! ·) (o1 (fun _ => true) (some told))) (o2 (fun x y => some (!decide (x = y))) (some told) (some due)))).bind fun tz => if tz = true then ((some false).bind fun y => some (.rt y)) else ((orO ((some broken).bind fun y => (some k).bind fun k => atI y k) (some due)).bind fun x => (some broken).bind fun b1 => (some k).bind fun kx => (setO b1 kx x).bind fun (broken2 : (List Bool)) => (((a2 (o2 atI (some claims_here) (some k)) (a2 ((some watches).bind fun y => (some k).bind fun k => atI y k) (a2 ((o2 atI (some stimuli_here) (some t)).bind (fun xs => some xs)) ((o2 atI (some spikes) (some t)).bind (fun xs => some xs))))).bind (fun p => p_next_watch p.1 p.2.1 p.2.2.1 p.2.2.2)).bind fun x => (some watches).bind fun b3 => (some k).bind fun kx => (setO b3 kx x).bind fun (watches4 : (List Int)) => ((andO (o2 (fun x y => some (!decide (x = y))) ((o2 atI (o2 atI (some claims_here) (some k)) (some (0 : Int))).bind SI.str) (some ("answer" : Str))) (o2 (fun x y => some (!decide (x = y))) ((some watches4).bind fun y => (some k).bind fun k => atI y k) (some (0 : Int)))).bind fun tz => if tz = true then ((some false).bind fun y => some (.rt y)) else (some (.nx (watches4, broken2)))))))))
def law_m_b1 (network_here : Network) (stimuli_here : (List (List Int))) (spikes : (List (List Int))) (claims_here : (List (List SI))) (state : ((List Int) × (List Int) × (List (List Int)))) (watches : (List Int)) (broken : (List Bool)) (t : Int) : Option ((Lp (((List Int) × (List Int) × (List (List Int))) × (List Int) × (List Bool)) Bool)) :=
  (((a2 (some network_here) (a2 (some state) ((o2 atI (some stimuli_here) (some t)).bind (fun xs => some xs)))).bind (fun p => p_advance p.1 p.2.1 p.2.2)).bind fun (found : (((List Int) × (List Int) × (List (List Int))) × (List Int))) => ((orO (o1 (! ·) (o1 (fun _ => true) (some found))) (orO (o2 (fun x y => some (!decide (x = y))) (o1 (fun (z : (((List Int) × (List Int) × (List (List Int))) × (List Int))) => z.2) (some found)) (o2 atI (some spikes) (some t))) (o2 (fun x y => some (!decide (x = y))) ((a2 (some network_here) (a2 (some state) (o2 atI (some stimuli_here) (some t)))).bind (fun p => p_advance p.1 p.2.1 p.2.2)) (some found)))).bind fun tz => if tz = true then ((some false).bind fun y => some (.rt y)) else ((((some claims_here).bind (fun xs => some (xs.length : Int))).bind rngG).bind fun xs => (forO (fun (ls2 : (List Int) × (List Bool)) lx2 => law_m_b2 stimuli_here spikes claims_here t ls2.1 ls2.2 lx2) (watches, broken) xs).bind fun l => rsB l (fun (s1 : (List Int) × (List Bool)) => ((o1 (fun (z : (((List Int) × (List Int) × (List (List Int))) × (List Int))) => z.1) (some found)).bind fun (state : ((List Int) × (List Int) × (List (List Int)))) => (some (.nx (state, s1.1, s1.2))))) .rt)))
def law_m (script : (List Int)) : Option Bool :=
  (((a2 (some script) (some false)).bind (fun p => l_network p.1 p.2)).bind fun (network_here : Network) => (((a2 (some script) (o1 Network.inputs (some network_here))).bind (fun p => l_stimuli p.1 p.2)).bind fun (stimuli_here : (List (List Int))) => ((o1 Run.spikes ((a2 (some network_here) (some stimuli_here)).bind (fun p => p_run p.1 p.2))).bind fun (spikes : (List (List Int))) => ((((o1 Network.neurons (some network_here)).bind fun xs => compO (fun _ => some true) (fun n => (some (0 : Int))) xs).bind (fun xs => some xs)).bind fun (zeros : (List Int)) => (((some network_here).bind (fun p => p_initial_state p)).bind fun (state : ((List Int) × (List Int) × (List (List Int)))) => ((o2 (fun x y => some (!decide (x = y))) (some state) (a2 (some zeros) (a2 (some zeros) ((((some (15 : Int)).bind rngG).bind fun xs => compO (fun _ => some true) (fun k => (some zeros)) xs).bind (fun xs => some xs))))).bind fun tz => if tz = true then (some false) else (((a2 (some script) (some network_here)).bind (fun p => l_claims p.1 p.2)).bind fun (claims_here : (List (List SI))) => (((some claims_here).bind fun xs => compO (fun _ => some true) (fun claim => (some (0 : Int))) xs).bind fun (watches : (List Int)) => (((some claims_here).bind fun xs => compO (fun _ => some true) (fun claim => (some false)) xs).bind fun (broken : (List Bool)) => ((((some stimuli_here).bind (fun xs => some (xs.length : Int))).bind rngG).bind fun xs => (forO (fun (ls1 : ((List Int) × (List Int) × (List (List Int))) × (List Int) × (List Bool)) lx1 => law_m_b1 network_here stimuli_here spikes claims_here ls1.1 ls1.2.1 ls1.2.2 lx1) (state, watches, broken) xs).bind fun l => rsB l (fun (s2 : ((List Int) × (List Int) × (List (List Int))) × (List Int) × (List Bool)) => ((o2 modG ((a2 (some script) (some (48 : Int))).bind (fun p => l_cell p.1 p.2)) (o2 shlG (some (1 : Int)) (o1 Network.inputs (some network_here)))).bind fun (number : Int) => (o2 (fun x y => some (decide (x = y))) ((a2 (some network_here) (some number)).bind (fun p => p_stimulus_of p.1 p.2)) (((o1 Network.inputs (some network_here)).bind rngG).bind fun xs => compO (fun j => (o2 (fun x y => some (decide (x = y))) (o2 modG (o2 divG (some number) (o2 shlG (some (1 : Int)) (some j))) (some (2 : Int))) (some (1 : Int)))) (fun j => (some j)) xs)))) (fun r => r)))))))))))
end M
/-! NetL: the drawn network and stimuli. -/
namespace M
open L2 G Q
theorem cell_eq (xs : List Int) (k : Nat) : l_cell xs (k : Int) = some (xs.getD k 0) := by
  unfold l_cell
  simp only [bS, oS2]
  by_cases h : k < xs.length
  · rw [if_pos (by simp; omega), atI_nat', List.getElem?_eq_getElem h]
    simp [List.getD, h]
  · rw [if_neg (by simp; omega)]
    simp [List.getD, Nat.le_of_not_lt h]
def neuF (c : Int) : Neuron := ⟨if c % 31 = 5 then 1 + c / 31 % 1048576 else 1 + c % 12, if c / 48 % 9 = 1 then c / 432 % 16 else c / 12 % 4, c / 5000 % 4, -(c / 20000 % 20), decide (c / 400000 % 2 = 1)⟩
theorem neuron_eq (c : Int) : l_neuron c = some (neuF c) := by
  unfold l_neuron neuF Neuron_i
  by_cases h1 : c % 31 = 5 <;> by_cases h2 : c / 48 % 9 = 1 <;>
    simp [modG_pos, divG_pos, oS2, oS1, aS2, h1, h2]
def synF (c sources many : Int) (learns : Bool) : Synapse := ⟨c % sources, c / 10 % many, c / 200 % 17 - 5, if c % 13 = 7 then 1 + c / 5000 % 15 else 1 + c / 5000 % 4, learns && decide (c / 80000 % 2 = 1)⟩
theorem synapse_eq {c sources many : Int} {learns : Bool} (h : 0 < sources) (h' : 0 < many) : l_synapse c sources many learns = some (synF c sources many learns) := by
  unfold l_synapse synF Synapse_i
  by_cases h1 : c % 13 = 7 <;>
    simp [modG_pos, divG_pos, oS2, oS1, aS2, h, h', h1, Q.andO_some]
def ruleF (c : Int) : Rule := ⟨c % 5, c / 5 % 5, c / 25 % 9 + 30 * (c / 20000 % 3), -8 - c / 225 % 9, 11 + c / 2025 % 9⟩
/-- the places of the script's synapses -/
def synK (ns : List Int) : List Nat := (List.range (min 23 ns.length - 7)).map (7 + ·)
def manyN (ns : List Int) : Nat := (1 + ns.getD 0 0 / 3 % 5).toNat
def inpN (ns : List Int) : Nat := (1 + ns.getD 0 0 % 3).toNat
theorem many_eq (ns : List Int) : 1 + ns.getD 0 0 / 3 % 5 = (manyN ns : Int) := by unfold manyN; omega
theorem inp_eq (ns : List Int) : 1 + ns.getD 0 0 % 3 = (inpN ns : Int) := by unfold inpN; omega
theorem many_b (ns : List Int) : 1 ≤ manyN ns ∧ manyN ns ≤ 5 := by unfold manyN; omega
theorem inp_b (ns : List Int) : 1 ≤ inpN ns ∧ inpN ns ≤ 3 := by unfold inpN; omega
def netF (ns : List Int) (learns : Bool) : Network := ⟨inpN ns, (List.range (manyN ns)).map fun k => neuF (ns.getD (2 + k) 0), (synK ns).map fun k => synF (ns.getD k 0) ((inpN ns : Int) + (manyN ns : Int)) (manyN ns) learns,
  if learns = true ∧ ns.getD 0 0 / 15 % 4 > 0 then some (ruleF (ns.getD 1 0)) else none⟩
theorem mul30 (i : Int) : mulG 30 i = some (30 * i) := mulG_l (by omega)
theorem network_eq (ns : List Int) (learns : Bool) : l_network ns learns = some (netF ns learns) := by
  have hm := many_b ns
  have hi := inp_b ns
  have h0 : l_cell ns 0 = some (ns.getD 0 0) := cell_eq ns 0
  have h1 : l_cell ns 1 = some (ns.getD 1 0) := cell_eq ns 1
  have hc : ∀ k : Nat, l_cell ns (2 + (k : Int)) = some (ns.getD (2 + k) 0) := fun k => by
    have := cell_eq ns (2 + k)
    rw [← this]
    congr 1
  have hn : compO (fun _ => some true) (fun k => (l_cell ns (2 + k)).bind fun p => l_neuron p) (nts (List.range (manyN ns))) = some ((List.range (manyN ns)).map fun k => neuF (ns.getD (2 + k) 0)) := by
    refine compO_nts fun k _ => ?_
    simp only [bS, hc, neuron_eq]
  have hs : ∀ s : List Synapse, s.length + (synK ns).length ≤ 16777216 → foldO (fun (ls1 : List Synapse) lx1 => l_network_b1 ns learns (inpN ns) (manyN ns) ls1 lx1) s (nts (synK ns)) = some (s ++ (synK ns).map fun k => synF (ns.getD k 0) ((inpN ns : Int) + (manyN ns : Int)) (manyN ns) learns) := by
    intro s hl
    have := foldO_app (f := fun (ls1 : List Synapse) lx1 => l_network_b1 ns learns (inpN ns) (manyN ns) ls1 lx1) (g := fun z => synF (ns.getD z.toNat 0) ((inpN ns : Int) + (manyN ns : Int)) (manyN ns) learns) (xs := nts (synK ns)) (fun s x hx hl => by
      obtain ⟨k, hk, rfl⟩ := mem_nts'.mp hx
      have hk' : k < ns.length := by
        unfold synK at hk
        simp only [List.mem_map, List.mem_range] at hk
        omega
      unfold l_network_b1
      simp only [oS2, aS2, bS, atI_nat', List.getElem?_eq_getElem hk', synapse_eq (show (0 : Int) < (inpN ns : Int) + (manyN ns : Int) by omega) (show (0 : Int) < (manyN ns : Int) by omega), appO_some hl, Int.toNat_natCast]
      congr 4
      simp [List.getD, hk']) (s := s) (by rw [nts_len]; exact hl)
    rw [this]
    congr 2
    unfold nts
    rw [List.map_map]
    rfl
  have hr : rngG2 7 (if (ns.length : Int) < 23 then (ns.length : Int) else 23) = some (nts (synK ns)) := by
    rw [min2]
    by_cases h : 7 ≤ ns.length
    · have := rngG2_nat (lo := 7) (hi := min 23 ns.length) (by omega) (by omega)
      rw [show min (23 : Int) (ns.length : Int) = ((min 23 ns.length : Nat) : Int) by omega]
      exact this
    · rw [rngG2_none (by omega) (by omega) (by omega) (by omega)]
      unfold synK
      rw [show min 23 ns.length - 7 = 0 by omega]
      rfl
  have hl : (synK ns).length ≤ 16 := by unfold synK; rw [List.length_map, List.length_range]; omega
  unfold l_network Network_i Rule_i netF
  simp only [aS2, bS, h0, h1, oS2, oS1, modG_pos (show (0 : Int) < 3 by decide), modG_pos (show (0 : Int) < 5 by decide), divG_pos (show (0 : Int) < 3 by decide) (by decide), many_eq, inp_eq, rngG_nat (show manyN ns ≤ 16777216 by omega), hn, hr, hs [] (by simp; omega), List.nil_append,
    modG_pos (show (0 : Int) < 4 by decide), divG_pos (show (0 : Int) < 15 by decide) (by decide), divG_pos (show (0 : Int) < 5 by decide) (by decide), divG_pos (show (0 : Int) < 25 by decide) (by decide), divG_pos (show (0 : Int) < 20000 by decide) (by decide), divG_pos (show (0 : Int) < 225 by decide) (by decide), divG_pos (show (0 : Int) < 2025 by decide) (by decide),
    modG_pos (show (0 : Int) < 9 by decide), mul30, Q.andO_some]
  cases learns with
  | false => simp [-List.getD_eq_getElem?_getD]
  | true =>
    by_cases h : 0 < ns.getD 0 0 / 15 % 4
    · simp [h, ruleF, -List.getD_eq_getElem?_getD]
    · simp [h, -List.getD_eq_getElem?_getD]
/-! stimuli -/
def stiK (ns : List Int) : List Nat := (List.range (min 47 ns.length - 23)).map (23 + ·)
def stiF (ns : List Int) (inputs : Nat) : List (List Int) := (stiK ns).map fun k => nts ((List.range inputs).filter fun j => decide (ns.getD k 0 / 2 ^ j % 2 = 1))
theorem pow_b {j : Nat} (h : j ≤ 29) : (2 : Int) ^ j < 1073741824 := by
  have h2 : 2 ^ j ≤ 2 ^ 29 := Nat.pow_le_pow_right (n := 2) (by decide) h
  have e : (2 : Int) ^ j = ((2 ^ j : Nat) : Int) := by rw [Int.natCast_pow]; rfl
  rw [e]
  omega
theorem pow_p (j : Nat) : (0 : Int) < 2 ^ j := Int.pow_pos (by decide)
theorem stimuli_eq (ns : List Int) (inputs : Nat) (hi : inputs ≤ 16) : l_stimuli ns (inputs : Int) = some (stiF ns inputs) := by
  have hs : ∀ s : List (List Int), s.length + (stiK ns).length ≤ 16777216 → foldO (fun (ls1 : List (List Int)) lx1 => l_stimuli_b1 ns (inputs : Int) ls1 lx1) s (nts (stiK ns)) = some (s ++ stiF ns inputs) := by
    intro s hl
    have := foldO_app (f := fun (ls1 : List (List Int)) lx1 => l_stimuli_b1 ns (inputs : Int) ls1 lx1) (g := fun z => nts ((List.range inputs).filter fun j => decide (ns.getD z.toNat 0 / 2 ^ j % 2 = 1))) (xs := nts (stiK ns)) (fun s x hx hl => by
      obtain ⟨k, hk, rfl⟩ := mem_nts'.mp hx
      have hk' : k < ns.length := by
        unfold stiK at hk
        simp only [List.mem_map, List.mem_range] at hk
        omega
      have hd : ns.getD k 0 = ns[k] := by simp [List.getD, hk']
      unfold l_stimuli_b1
      have hcomp : compO (fun j => (o2 (fun x y => some (decide (x = y))) (o2 modG (o2 divG ((o2 atI (some ns) (some (k : Int))).bind (fun i => some i)) (o2 shlG (some (1 : Int)) (some j))) (some (2 : Int))) (some (1 : Int)))) (fun j => (some j)) (nts (List.range inputs)) = some (nts ((List.range inputs).filter fun j => decide (ns.getD k 0 / 2 ^ j % 2 = 1))) := by
        refine compO_nts' (fun j hj => ?_)
        have hj' := List.mem_range.mp hj
        simp only [oS2, bS, atI_nat', List.getElem?_eq_getElem hk', shlG_one (show (0 : Int) ≤ (j : Int) by omega) (by omega), Int.toNat_natCast, divG_pos (pow_p j) (pow_b (show j ≤ 29 by omega)), modG_pos (show (0 : Int) < 2 by decide), hd]
      simp only [bS, rngG_nat (show inputs ≤ 16777216 by omega), hcomp, appO_some hl, Int.toNat_natCast]) (s := s) (by rw [nts_len]; exact hl)
    rw [this]
    congr 2
    unfold nts stiF
    rw [List.map_map]
    rfl
  have hr : rngG2 23 (if (ns.length : Int) < 47 then (ns.length : Int) else 47) = some (nts (stiK ns)) := by
    rw [min2]
    by_cases h : 23 ≤ ns.length
    · have := rngG2_nat (lo := 23) (hi := min 47 ns.length) (by omega) (by omega)
      rw [show min (47 : Int) (ns.length : Int) = ((min 47 ns.length : Nat) : Int) by omega]
      exact this
    · rw [rngG2_none (by omega) (by omega) (by omega) (by omega)]
      unfold stiK
      rw [show min 47 ns.length - 23 = 0 by omega]
      rfl
  have hl : (stiK ns).length ≤ 24 := by unfold stiK; rw [List.length_map, List.length_range]; omega
  unfold l_stimuli
  simp only [aS2, oS2, bS, hr, hs [] (by simp; omega), List.nil_append]
end M
/-! RunL: what run computes, as functions of places. -/
namespace M
open L2 G Q
def syn (N : Network) (k : Nat) : Synapse := N.synapses.getD k ⟨0, 0, 0, 1, false⟩
def neu (N : Network) (n : Nat) : Neuron := N.neurons.getD n ⟨1, 0, 0, 0, false⟩
def tg (N : Network) (k : Nat) : Nat := (syn N k).target.toNat
structure WF (N : Network) : Prop where
  nb : N.neurons.length ≤ 1000
  sb : N.synapses.length ≤ 1000
  tgt : ∀ k, k < N.synapses.length → 0 ≤ (syn N k).target ∧ (syn N k).target < N.neurons.length
  del : ∀ k, k < N.synapses.length → 1 ≤ (syn N k).delay
  leak : ∀ n, n < N.neurons.length → 0 ≤ (neu N n).leak
structure FS where
  pot : Nat → Int
  rest : Nat → Int
  lsp : Nat → Option Int
  w : Nat → Int
  la : Nat → Option Int
def cellsR (N : Network) (A : FS) : Cells := ⟨N.neurons, N.synapses, N.rule, tab N.neurons.length A.pot, tab N.neurons.length A.rest, tab N.neurons.length A.lsp, tab N.synapses.length A.w, tab N.synapses.length A.la⟩
theorem syn_at {N : Network} {k : Nat} (h : k < N.synapses.length) : N.synapses[k]? = some (syn N k) := by
  unfold syn; rw [List.getD_eq_getElem?_getD, List.getElem?_eq_getElem h]; rfl
theorem neu_at {N : Network} {k : Nat} (h : k < N.neurons.length) : N.neurons[k]? = some (neu N k) := by
  unfold neu; rw [List.getD_eq_getElem?_getD, List.getElem?_eq_getElem h]; rfl
theorem tg_eq {N : Network} (W : WF N) {k : Nat} (h : k < N.synapses.length) : (syn N k).target = (tg N k : Int) := by
  have := W.tgt k h; unfold tg; omega
theorem tg_lt {N : Network} (W : WF N) {k : Nat} (h : k < N.synapses.length) : tg N k < N.neurons.length := by
  have := W.tgt k h; unfold tg; omega
def initF (N : Network) : FS := ⟨fun _ => 0, fun _ => 0, fun _ => none, fun k => (syn N k).weight, fun _ => none⟩
theorem cells_eq {N : Network} (W : WF N) : Cells_i N.neurons N.synapses N.rule = some (cellsR N (initF N)) := by
  have e : compO (fun _ => some true) (fun synapse => some (Synapse.weight synapse)) N.synapses = some (tab N.synapses.length fun k => (syn N k).weight) := by
    rw [compO_map (g := Synapse.weight) fun _ _ => rfl]
    congr 1
    conv => lhs; rw [tab_of (⟨0, 0, 0, 1, false⟩ : Synapse) N.synapses]
    unfold tab
    rw [List.map_map]
    rfl
  have h1 := W.nb
  have h2 := W.sb
  unfold Cells_i cellsR initF
  simp only [oS1, oS2, bS, repG_one (show N.neurons.length ≤ 16777216 by omega), repG_one (show N.synapses.length ≤ 16777216 by omega), e]
def recentF (r : Rule) (l : Option Int) (t : Int) : Bool := match l with
  | none => false
  | some x => decide (t - x ≤ r.window)
theorem recent_eq (r : Rule) (l : Option Int) (t : Int) : p_recent r l t = some (recentF r l t) := by
  unfold p_recent recentF
  cases l <;> rfl
def depF (r : Rule) (w : Int) : Int := max r.least (w - r.loss)
def ptnF (r : Rule) (w : Int) : Int := min r.most (w + r.gain)
theorem dep_eq (r : Rule) (w : Int) : p_depressed r w = some (depF r w) := by
  unfold p_depressed depF
  simp only [oS1, oS2, aS2, bS, max2]
theorem ptn_eq (r : Rule) (w : Int) : p_potentiated r w = some (ptnF r w) := by
  unfold p_potentiated ptnF
  simp only [oS1, oS2, aS2, bS, min2]
/-- a weight when its synapse delivers -/
def dw (N : Network) (lsp : Nat → Option Int) (t : Int) (k : Nat) (x : Int) : Int := match N.rule with
  | none => x
  | some r => if ((syn N k).plastic && recentF r (lsp (tg N k)) t) = true then depF r x else x
/-- .. when its target fires -/
def pw (N : Network) (la : Nat → Option Int) (fired : List Nat) (t : Int) (k : Nat) (x : Int) : Int := match N.rule with
  | none => x
  | some r => if ((syn N k).plastic && decide (tg N k ∈ fired) && recentF r (la k) t) = true then ptnF r x else x
theorem upF_id {α : Type} (f : Nat → α) (k : Nat) : upF f k (f k) = f := by
  funext j
  unfold upF
  by_cases h : j = k
  · rw [if_pos h, h]
  · rw [if_neg h]
def arrStep (N : Network) (t : Int) (z : FS × (Nat → Int)) (k : Nat) : FS × (Nat → Int) :=
  ({ z.1 with la := upF z.1.la k (some t), w := upF z.1.w k (dw N z.1.lsp t k (z.1.w k)) }, upF z.2 (tg N k) (z.2 (tg N k) + z.1.w k))
theorem arrive_b1 {N : Network} (W : WF N) (t : Int) (z : FS × (Nat → Int)) {k : Nat} (hk : k < N.synapses.length) :
    Cells_arrive_b1 t (cellsR N z.1) (tab N.neurons.length z.2) (k : Int) = some (cellsR N (arrStep N t z k).1, tab N.neurons.length (arrStep N t z k).2) := by
  unfold Cells_arrive_b1
  have ht := tg_lt W hk
  simp only [cellsR, oS1, oS2, bS, atI_nat', syn_at hk, tg_eq W hk, tab_at ht, tab_at hk, setO_tab ht, setO_tab hk]
  unfold arrStep dw
  cases hr : N.rule with
  | none => simp [andO_F, upF_id]
  | some r =>
    simp only [Option.isSome_some, Q.andO_some, Bool.true_and, bS]
    cases hp : (syn N k).plastic with
    | false => simp [upF_id]
    | true =>
      simp only [if_true, aS2, bS, recent_eq, Bool.true_and]
      cases hq : recentF r (z.1.lsp (tg N k)) t with
      | false => simp [upF_id]
      | true => simp [dep_eq]
theorem arrive_eq {N : Network} (W : WF N) (t : Int) (A : FS) {arr : List Nat} (ha : ∀ k ∈ arr, k < N.synapses.length) :
    Cells_arrive (cellsR N A) t (nts arr) = some (cellsR N (arr.foldl (arrStep N t) (A, fun _ => 0)).1, tab N.neurons.length (arr.foldl (arrStep N t) (A, fun _ => 0)).2) := by
  have h := (foldO_to (f := fun (ls1 : Cells × (List Int)) lx1 => Cells_arrive_b1 t ls1.1 ls1.2 lx1) (g := arrStep N t) (fun z : FS × (Nat → Int) => (cellsR N z.1, tab N.neurons.length z.2)) (fun (k : Nat) => (k : Int)) (fun _ => True) (bs := arr) (fun z k hk _ => ⟨arrive_b1 W t z (ha k hk), trivial⟩) (t := (A, fun _ => 0)) trivial).1
  have h1 := W.nb
  unfold Cells_arrive
  simp only [cellsR, oS1, oS2, bS, repG_one (show N.neurons.length ≤ 16777216 by omega)] at h ⊢
  unfold nts
  rw [h]
  rfl
theorem arr_closed {N : Network} {t : Int} : ∀ {arr : List Nat} {z : FS × (Nat → Int)}, arr.Nodup → (arr.foldl (arrStep N t) z) =
    ({ z.1 with la := fun k => if k ∈ arr then some t else z.1.la k, w := fun k => if k ∈ arr then dw N z.1.lsp t k (z.1.w k) else z.1.w k }, fun n => z.2 n + ((arr.filter fun k => decide (tg N k = n)).map z.1.w).sum)
  | [], z, _ => by
    simp
  | k0 :: arr, z, h => by
    obtain ⟨h0, h1⟩ := List.nodup_cons.mp h
    rw [List.foldl_cons, arr_closed (z := arrStep N t z k0) h1]
    unfold arrStep
    refine Prod.ext ?_ ?_
    · simp only
      congr 1
      · funext k
        by_cases e : k = k0
        · subst e; simp [h0]
        · simp [e, upF_ne e]
      · funext k
        by_cases e : k = k0
        · subst e; simp [h0]
        · simp [e, upF_ne e]
    · simp only
      funext n
      have hm : ((arr.filter fun k => decide (tg N k = n)).map (upF z.1.w k0 (dw N z.1.lsp t k0 (z.1.w k0)))) = ((arr.filter fun k => decide (tg N k = n)).map z.1.w) := by
        refine List.map_congr_left fun k hk => upF_ne fun e => ?_
        subst e
        exact h0 ((List.mem_filter.mp hk).1)
      rw [hm, List.filter_cons]
      by_cases e : tg N k0 = n
      · subst e
        rw [upF_same, if_pos (by simp), List.map_cons, List.sum_cons]
        omega
      · rw [upF_ne (fun q => e q.symm), if_neg (by simp [e])]
def stepF (q : Neuron) (p r inc : Int) : Int × Int × Bool :=
  let p1 := max q.floor ((if q.leak > 0 then p - p / 2 ^ q.leak.toNat else p) + inc)
  if r > 0 then (p1, r - 1, false) else if p1 < q.threshold then (p1, 0, false) else if q.subtract = true then (p1 - q.threshold, q.refractory, true) else (0, q.refractory, true)
theorem step_eq {q : Neuron} (h : 0 ≤ q.leak) (p r inc : Int) : p_step q p r inc = some (stepF q p r inc) := by
  unfold p_step stepF
  simp only [oS1, oS2, aS2, bS, shrG_nn h, max2]
  by_cases h1 : 0 < q.leak
  · simp only [h1, decide_true, if_true, bS, gt_iff_lt]
    by_cases h2 : 0 < r
    · simp [h2]
    · simp only [h2, decide_false, if_false, Bool.false_eq_true]
      by_cases h3 : max q.floor (p - p / 2 ^ q.leak.toNat + inc) < q.threshold
      · simp [h3]
      · simp only [h3, decide_false, if_false, Bool.false_eq_true]
        cases q.subtract <;> simp
  · simp only [h1, decide_false, if_false, Bool.false_eq_true, bS, gt_iff_lt]
    by_cases h2 : 0 < r
    · simp [h2]
    · simp only [h2, decide_false, if_false, Bool.false_eq_true]
      by_cases h3 : max q.floor (p + inc) < q.threshold
      · simp [h3]
      · simp only [h3, decide_false, if_false, Bool.false_eq_true]
        cases q.subtract <;> simp
def nstep (N : Network) (A : FS) (sums : Nat → Int) (n : Nat) : Int × Int × Bool := stepF (neu N n) (A.pot n) (A.rest n) (sums n)
/-- the first k neurons have fired, or not -/
def firedTo (N : Network) (A : FS) (sums : Nat → Int) (k : Nat) : FS := { A with pot := fun n => if n < k then (nstep N A sums n).1 else A.pot n, rest := fun n => if n < k then (nstep N A sums n).2.1 else A.rest n }
def firedL (N : Network) (A : FS) (sums : Nat → Int) (k : Nat) : List Nat := (List.range k).filter fun n => (nstep N A sums n).2.2
theorem upF_to {α : Type} (f g : Nat → α) (k : Nat) : upF (fun n => if n < k then f n else g n) k (f k) = fun n => if n < k + 1 then f n else g n := by
  funext n
  unfold upF
  by_cases h : n = k
  · subst h; rw [if_pos rfl, if_pos (Nat.lt_succ_self _)]
  · rw [if_neg h]
    show (if n < k then f n else g n) = _
    by_cases h2 : n < k
    · rw [if_pos h2, if_pos (by omega)]
    · rw [if_neg h2, if_neg (by omega)]
theorem fire_eq {N : Network} (W : WF N) (A : FS) (sums : Nat → Int) : Cells_fire (cellsR N A) (tab N.neurons.length sums) = some (cellsR N (firedTo N A sums N.neurons.length), nts (firedL N A sums N.neurons.length)) := by
  have hb := W.nb
  obtain ⟨s', h1, h2⟩ := foldO_range (f := fun (ls1 : Cells × (List Int)) lx1 => Cells_fire_b1 (tab N.neurons.length sums) ls1.1 ls1.2 lx1) (fun k s => s = (cellsR N (firedTo N A sums k), nts (firedL N A sums k))) (n := N.neurons.length) (s := (cellsR N A, [])) (fun k s hk hs => by
    subst hs
    refine ⟨_, ?_, rfl⟩
    have hp : (firedTo N A sums k).pot k = A.pot k := if_neg (Nat.lt_irrefl _)
    have hr : (firedTo N A sums k).rest k = A.rest k := if_neg (Nat.lt_irrefl _)
    have hl : (nts (firedL N A sums k)).length < 16777216 := by
      rw [nts_len]
      have := List.length_filter_le (fun n => (nstep N A sums n).2.2) (List.range k)
      rw [List.length_range] at this
      unfold firedL
      omega
    unfold Cells_fire_b1
    simp only [cellsR, oS1, oS2, aS2, bS, atI_nat', neu_at hk, tab_at hk, step_eq (W.leak k hk), hp, hr, setO_tab hk]
    have e : stepF (neu N k) (A.pot k) (A.rest k) (sums k) = nstep N A sums k := rfl
    rw [e]
    have e1 : upF (firedTo N A sums k).pot k (nstep N A sums k).1 = (firedTo N A sums (k + 1)).pot := upF_to (fun n => (nstep N A sums n).1) A.pot k
    have e2 : upF (firedTo N A sums k).rest k (nstep N A sums k).2.1 = (firedTo N A sums (k + 1)).rest := upF_to (fun n => (nstep N A sums n).2.1) A.rest k
    rw [e1, e2]
    have e3 : firedL N A sums (k + 1) = firedL N A sums k ++ (if (nstep N A sums k).2.2 = true then [k] else []) := by
      unfold firedL
      rw [List.range_succ, List.filter_append, List.filter_cons, List.filter_nil]
    rw [e3, nts_append]
    cases hc : (nstep N A sums k).2.2 with
    | true =>
      simp only [if_true, appO_some hl, bS]
      rfl
    | false =>
      simp only [Bool.false_eq_true, if_false, nts, List.map_nil, List.append_nil]
      rfl) (by
      show _ = (cellsR N (firedTo N A sums 0), nts (firedL N A sums 0))
      unfold firedTo firedL
      simp [nts])
  unfold Cells_fire
  simp only [cellsR, oS1, bS, rngG_nat (show N.neurons.length ≤ 16777216 by omega)] at h1 ⊢
  rw [h1, h2]
  rfl
theorem learn_b1 {N : Network} (t : Int) {arr : List Nat} (ha : ∀ k ∈ arr, k < N.neurons.length) : ∀ {A : FS}, foldO (fun (ls1 : Cells) lx1 => Cells_learn_b1 t ls1 lx1) (cellsR N A) (nts arr) = some (cellsR N { A with lsp := fun n => if n ∈ arr then some t else A.lsp n }) := by
  induction arr with
  | nil => intro A; simp [nts]; rfl
  | cons k arr ih =>
    intro A
    have e : Cells_learn_b1 t (cellsR N A) (k : Int) = some (cellsR N { A with lsp := upF A.lsp k (some t) }) := by
      unfold Cells_learn_b1
      simp only [cellsR, oS1, bS, setO_tab (ha k List.mem_cons_self)]
    show (Cells_learn_b1 t (cellsR N A) (k : Int)).bind (fun s => foldO _ s (nts arr)) = _
    rw [e, bS, ih (fun j hj => ha j (List.mem_cons_of_mem _ hj)) (A := { A with lsp := upF A.lsp k (some t) })]
    congr 3
    funext n
    by_cases h1 : n ∈ arr
    · simp [h1]
    · by_cases h2 : n = k
      · subst h2; simp [h1]
      · simp [h1, h2, upF_ne h2]
theorem learn_eq {N : Network} (W : WF N) (t : Int) (A : FS) {fired : List Nat} (hf : ∀ k ∈ fired, k < N.neurons.length) :
    Cells_learn (cellsR N A) t (nts fired) = some (cellsR N { A with lsp := fun n => if n ∈ fired then some t else A.lsp n, w := fun k => pw N A.la fired t k (A.w k) }, ()) := by
  have hb := W.sb
  unfold Cells_learn
  simp only [bS, learn_b1 t hf]
  generalize hA : ({ A with lsp := fun n => if n ∈ fired then some t else A.lsp n } : FS) = A1
  have ea : A.la = A1.la := by rw [← hA]
  have ew : A.w = A1.w := by rw [← hA]
  have el : (fun n => if n ∈ fired then some t else A.lsp n) = A1.lsp := by rw [← hA]
  have ep : A.pot = A1.pot := by rw [← hA]
  have er : A.rest = A1.rest := by rw [← hA]
  rw [el, ea, ew, ep, er]
  cases hr : N.rule with
  | none =>
    simp only [cellsR, oS1, hr, Option.isNone_none, bS, if_true, pw]
  | some r =>
    obtain ⟨s', h1, h2⟩ := foldO_range (f := fun (ls2 : Cells) lx2 => Cells_learn_b2 t (nts fired) ls2 lx2) (fun k s => s = cellsR N { A1 with w := fun j => if j < k then pw N A1.la fired t j (A1.w j) else A1.w j }) (n := N.synapses.length) (s := cellsR N A1) (fun k s hk hs => by
      subst hs
      refine ⟨_, ?_, rfl⟩
      unfold Cells_learn_b2
      have hw : (if k < k then pw N A1.la fired t k (A1.w k) else A1.w k) = A1.w k := if_neg (Nat.lt_irrefl _)
      simp only [cellsR, oS1, oS2, aS2, bS, atI_nat', syn_at hk, tg_eq W hk, mem_nts, Q.andO_some, hr, recent_eq, tab_at hk, hw, ptn_eq, setO_tab hk]
      have e : ∀ x, x = pw N A1.la fired t k (A1.w k) → upF (fun j => if j < k then pw N A1.la fired t j (A1.w j) else A1.w j) k x = fun n => if n < k + 1 then pw N A1.la fired t n (A1.w n) else A1.w n := fun x hx => by
        rw [hx]; exact upF_to (fun j => pw N A1.la fired t j (A1.w j)) A1.w k
      have eid : pw N A1.la fired t k (A1.w k) = A1.w k → (fun j => if j < k then pw N A1.la fired t j (A1.w j) else A1.w j) = fun n => if n < k + 1 then pw N A1.la fired t n (A1.w n) else A1.w n := fun hx => by
        rw [← e (A1.w k) hx.symm]
        have := upF_id (fun j => if j < k then pw N A1.la fired t j (A1.w j) else A1.w j) k
        simp only [Nat.lt_irrefl, if_false] at this
        exact this.symm
      by_cases c1 : ((syn N k).plastic && decide (tg N k ∈ fired)) = true
      · rw [if_pos c1]
        by_cases c2 : recentF r (A1.la k) t = true
        · rw [if_pos c2, e]
          unfold pw
          rw [hr]
          simp only [c1, c2, Bool.and_self, if_true]
        · rw [if_neg c2, eid]
          unfold pw
          rw [hr]
          simp only [c1, Bool.not_eq_true] at c2 ⊢
          simp [c2]
      · rw [if_neg c1, eid]
        unfold pw
        rw [hr]
        simp only [Bool.not_eq_true] at c1
        simp [c1]) (by
        show _ = _
        simp)
    have hh : (o1 Option.isNone (o1 (fun (b : Cells) => b.rule) (some (cellsR N A1)))) = some false := by
      simp [cellsR, oS1, hr]
    rw [hh]
    simp only [bS, Bool.false_eq_true, if_false]
    have hl : ((o1 (fun (b : Cells) => b.synapses) (some (cellsR N A1))).bind fun xs => some (xs.length : Int)) = some (N.synapses.length : Int) := rfl
    rw [hl]
    simp only [bS, rngG_nat (show N.synapses.length ≤ 16777216 by omega)]
    rw [h1, h2]
    simp only [bS]
    congr 2
    unfold cellsR
    congr 1
    exact tab_congr fun k hk => if_pos hk
/-- one tick -/
def tickF (N : Network) (t : Int) (arr : List Nat) (A : FS) : FS × List Nat :=
  let sums := fun n => ((arr.filter fun k => decide (tg N k = n)).map A.w).sum
  let w1 := fun k => if k ∈ arr then dw N A.lsp t k (A.w k) else A.w k
  let la1 := fun k => if k ∈ arr then some t else A.la k
  let fired := (List.range N.neurons.length).filter fun n => (nstep N A sums n).2.2
  (⟨fun n => (nstep N A sums n).1, fun n => (nstep N A sums n).2.1, fun n => if n ∈ fired then some t else A.lsp n, fun k => pw N la1 fired t k (w1 k), la1⟩, fired)
theorem tick_eq {N : Network} (W : WF N) (t : Int) (A : FS) {arr : List Nat} (ha : ∀ k ∈ arr, k < N.synapses.length) (hn : arr.Nodup) :
    Cells_tick (cellsR N A) t (nts arr) = some (cellsR N (tickF N t arr A).1, nts (tickF N t arr A).2) := by
  unfold Cells_tick
  simp only [bS, aS2, arrive_eq W t A ha, arr_closed hn, fire_eq W]
  rw [learn_eq W t _ (fun k hk => by
    have := (List.mem_filter.mp hk).1
    exact List.mem_range.mp this)]
  simp only [bS]
  congr 2
  · unfold tickF cellsR firedTo firedL nstep
    simp only [Int.zero_add]
    congr 1
    · exact tab_congr fun n hn => if_pos hn
    · exact tab_congr fun n hn => if_pos hn
  · unfold tickF firedL nstep
    simp only [Int.zero_add]
/-- the synapses that deliver in tick t -/
def arrK (N : Network) (hist : List (List Int)) (t : Nat) : List Nat := (List.range N.synapses.length).filter fun k => decide ((syn N k).delay ≤ (t : Int)) && decide ((syn N k).source ∈ hist.getD (t - (syn N k).delay.toNat) [])
theorem arrK_lt {N : Network} {hist : List (List Int)} {t : Nat} : ∀ k ∈ arrK N hist t, k < N.synapses.length := fun k hk => List.mem_range.mp ((List.mem_filter.mp hk).1)
theorem arrK_nodup {N : Network} {hist : List (List Int)} {t : Nat} : (arrK N hist t).Nodup := List.Nodup.sublist List.filter_sublist List.nodup_range
theorem arr_eq {N : Network} (W : WF N) {hist : List (List Int)} {t : Nat} (hl : hist.length = t) : foldO (fun (ls2 : List Int) lx2 => p_run_b2 N hist (t : Int) ls2 lx2) [] (nts (List.range N.synapses.length)) = some (nts (arrK N hist t)) := by
  have hb := W.sb
  have := foldO_appF (f := fun (ls2 : List Int) lx2 => p_run_b2 N hist (t : Int) ls2 lx2) (g := fun z => z) (p := fun z => decide ((syn N z.toNat).delay ≤ (t : Int)) && decide ((syn N z.toNat).source ∈ hist.getD (t - (syn N z.toNat).delay.toNat) [])) (xs := nts (List.range N.synapses.length)) (fun s x hx hl' => by
    obtain ⟨k, hk, rfl⟩ := mem_nts'.mp hx
    have hk := List.mem_range.mp hk
    have hd := W.del k hk
    unfold p_run_b2
    simp only [oS1, oS2, bS, atI_nat', syn_at hk, Int.toNat_natCast]
    by_cases c : (syn N k).delay ≤ (t : Int)
    · have h0 : 0 ≤ (t : Int) - (syn N k).delay := by omega
      have h1 : ((t : Int) - (syn N k).delay).toNat = t - (syn N k).delay.toNat := by omega
      have h2 : t - (syn N k).delay.toNat < hist.length := by omega
      simp only [c, decide_true, andO_T, atI_nn h0, h1, List.getElem?_eq_getElem h2, oS2, Bool.true_and, bS, List.getD_eq_getElem?_getD, Option.getD_some]
      by_cases c2 : (syn N k).source ∈ hist[t - (syn N k).delay.toNat]
      · simp [c2, appO_some hl']
      · simp [c2]
    · simp [c, andO_F]) (s := []) (by simp [nts_len]; omega)
  rw [this]
  congr 1
  unfold nts arrK
  rw [List.filter_map, List.map_map, List.nil_append]
  rfl
def runS (N : Network) (stim : List (List Int)) : Nat → FS × List (List Int) × List (List Nat)
  | 0 => (initF N, [], [])
  | t + 1 =>
    let z := runS N stim t
    let q := tickF N (t : Int) (arrK N z.2.1 t) z.1
    (q.1, z.2.1 ++ [stim.getD t [] ++ q.2.map fun (n : Nat) => N.inputs + (n : Int)], z.2.2 ++ [q.2])
theorem runS_len (N : Network) (stim : List (List Int)) : ∀ t, (runS N stim t).2.1.length = t ∧ (runS N stim t).2.2.length = t
  | 0 => ⟨rfl, rfl⟩
  | t + 1 => by
    obtain ⟨h1, h2⟩ := runS_len N stim t
    unfold runS
    simp [h1, h2]
theorem run_eq {N : Network} (W : WF N) {stim : List (List Int)} (hl : stim.length ≤ 1000) (hs : ∀ xs ∈ stim, xs.length ≤ 1000) :
    p_run N stim = some ⟨(runS N stim stim.length).2.2.map nts, tab N.synapses.length (runS N stim stim.length).1.w⟩ := by
  have hb := W.sb
  have hn := W.nb
  obtain ⟨s', h1, h2⟩ := foldO_range (f := fun (ls1 : Cells × (List (List Int)) × (List (List Int))) lx1 => p_run_b1 N stim ls1.1 ls1.2.1 ls1.2.2 lx1) (fun t s => s = (cellsR N (runS N stim t).1, (runS N stim t).2.1, (runS N stim t).2.2.map nts)) (n := stim.length) (s := (cellsR N (initF N), [], [])) (fun t s ht hs' => by
    subst hs'
    obtain ⟨l1, l2⟩ := runS_len N stim t
    refine ⟨_, ?_, rfl⟩
    unfold p_run_b1
    have ha := arr_eq W l1
    simp only [oS1, oS2, bS, rngG_nat (show N.synapses.length ≤ 16777216 by omega), ha, aS2, tick_eq W (t : Int) _ arrK_lt arrK_nodup, atI_nat', List.getElem?_eq_getElem ht]
    generalize hq : tickF N (t : Int) (arrK N (runS N stim t).2.1 t) (runS N stim t).1 = q
    have hql : q.2.length ≤ 1000 := by
      rw [← hq]
      have := List.length_filter_le (fun n => (nstep N (runS N stim t).1 (fun n => (((arrK N (runS N stim t).2.1 t).filter fun k => decide (tg N k = n)).map (runS N stim t).1.w).sum) n).2.2) (List.range N.neurons.length)
      rw [List.length_range] at this
      exact Nat.le_trans this hn
    have hc : compO (fun _ => some true) (fun n => some (N.inputs + n)) (nts q.2) = some (q.2.map fun (n : Nat) => N.inputs + (n : Int)) := compO_nts fun k _ => rfl
    have hst : stim.getD t [] = stim[t] := by rw [List.getD_eq_getElem?_getD, List.getElem?_eq_getElem ht]; rfl
    have hsl : stim[t].length ≤ 1000 := hs _ (List.getElem_mem ht)
    simp only [appO_some (show ((runS N stim t).2.2.map nts).length < 16777216 by rw [List.length_map, l2]; omega), bS, hc, oS2, catG_some (show stim[t].length + (q.2.map fun (n : Nat) => N.inputs + (n : Int)).length ≤ 16777216 by rw [List.length_map]; omega), appO_some (show (runS N stim t).2.1.length < 16777216 by omega)]
    rw [runS, List.map_append]
    simp only [hq, hst]
    rfl) rfl
  unfold p_run
  simp only [aS2, oS1, bS, cells_eq W, rngG_nat (show stim.length ≤ 16777216 by omega)]
  rw [h1, h2]
  rfl
end M
/-! NRL: the drawn network, run. -/
namespace M
open L2 G Q
theorem netF_syn {ns : List Int} {l : Bool} {k : Nat} (h : k < (netF ns l).synapses.length) : ∃ c, syn (netF ns l) k = synF c ((inpN ns : Int) + (manyN ns : Int)) (manyN ns) l := by
  have h2 := syn_at h
  have h' : k < (synK ns).length := by
    have e : (netF ns l).synapses.length = (synK ns).length := List.length_map ..
    omega
  have h3 : (netF ns l).synapses[k]? = some (synF (ns.getD (synK ns)[k] 0) ((inpN ns : Int) + (manyN ns : Int)) (manyN ns) l) := by
    show ((synK ns).map _)[k]? = _
    rw [List.getElem?_map, List.getElem?_eq_getElem h']
    rfl
  rw [h3] at h2
  exact ⟨_, (Option.some.inj h2).symm⟩
theorem netF_len (ns : List Int) (l : Bool) : (netF ns l).neurons.length = manyN ns := by
  show ((List.range (manyN ns)).map _).length = _
  rw [List.length_map, List.length_range]
theorem netF_slen (ns : List Int) (l : Bool) : (netF ns l).synapses.length ≤ 16 := by
  show ((synK ns).map _).length ≤ 16
  rw [List.length_map]
  unfold synK
  rw [List.length_map, List.length_range]
  omega
theorem netF_src {ns : List Int} {l : Bool} {k : Nat} (h : k < (netF ns l).synapses.length) : 0 ≤ (syn (netF ns l) k).source ∧ (syn (netF ns l) k).source < (inpN ns : Int) + (manyN ns : Int) := by
  obtain ⟨c, e⟩ := netF_syn h
  have hm := many_b ns
  have hi := inp_b ns
  rw [e]
  exact ⟨Int.emod_nonneg _ (by omega), Int.emod_lt_of_pos _ (by omega)⟩
theorem netF_wf (ns : List Int) (l : Bool) : WF (netF ns l) := by
  have hm := many_b ns
  have hi := inp_b ns
  have hl := netF_len ns l
  have hs := netF_slen ns l
  refine ⟨by omega, by omega, fun k hk => ?_, fun k hk => ?_, fun n hn => ?_⟩
  · obtain ⟨c, e⟩ := netF_syn hk
    rw [e, hl]
    exact ⟨Int.emod_nonneg _ (by omega), Int.emod_lt_of_pos _ (by omega)⟩
  · obtain ⟨c, e⟩ := netF_syn hk
    rw [e]
    unfold synF
    simp only
    split <;> omega
  · have h2 := neu_at hn
    have h3 : (netF ns l).neurons[n]? = some (neuF (ns.getD (2 + n) 0)) := by
      show ((List.range (manyN ns)).map _)[n]? = _
      rw [List.getElem?_map, List.getElem?_range (by omega)]
      rfl
    rw [h3] at h2
    rw [← Option.some.inj h2]
    unfold neuF
    simp only
    split <;> omega
theorem stiF_len (ns : List Int) (i : Nat) : (stiF ns i).length ≤ 24 := by
  unfold stiF stiK
  rw [List.length_map, List.length_map, List.length_range]
  omega
theorem stiF_mem {ns : List Int} {i : Nat} {xs : List Int} (h : xs ∈ stiF ns i) : xs.length ≤ i ∧ ∀ x ∈ xs, 0 ≤ x ∧ x < i := by
  unfold stiF at h
  obtain ⟨k, _, rfl⟩ := List.mem_map.mp h
  refine ⟨?_, fun x hx => ?_⟩
  · rw [nts_len]
    refine Nat.le_trans (List.length_filter_le _ _) ?_
    rw [List.length_range]
    exact Nat.le_refl _
  · obtain ⟨j, hj, rfl⟩ := mem_nts'.mp hx
    have := List.mem_range.mp (List.mem_filter.mp hj).1
    omega
theorem stiF_at {ns : List Int} {i t : Nat} {x : Int} (h : x ∈ (stiF ns i).getD t []) : 0 ≤ x ∧ x < i := by
  rw [List.getD_eq_getElem?_getD] at h
  by_cases ht : t < (stiF ns i).length
  · rw [List.getElem?_eq_getElem ht] at h
    exact (stiF_mem (List.getElem_mem ht)).2 x h
  · rw [List.getElem?_eq_none (by omega)] at h
    cases h
theorem run_net (ns : List Int) (l : Bool) : p_run (netF ns l) (stiF ns (inpN ns)) = some ⟨(runS (netF ns l) (stiF ns (inpN ns)) (stiF ns (inpN ns)).length).2.2.map nts, tab (netF ns l).synapses.length (runS (netF ns l) (stiF ns (inpN ns)) (stiF ns (inpN ns)).length).1.w⟩ :=
  run_eq (netF_wf ns l) (by have := stiF_len ns (inpN ns); omega) fun xs hx => by
    have := (stiF_mem hx).1
    have := inp_b ns
    omega
theorem sum_perm {xs ys : List Int} (h : xs.Perm ys) : xs.sum = ys.sum := by
  induction h with
  | nil => rfl
  | cons x _ ih => rw [List.sum_cons, List.sum_cons, ih]
  | swap x y l => simp only [List.sum_cons]; omega
  | trans _ _ h1 h2 => rw [h1, h2]
theorem getD_app {α : Type} {xs : List α} {y : α} {i : Nat} {d : α} : (xs ++ [y]).getD i d = if i < xs.length then xs.getD i d else if i = xs.length then y else d := by
  rw [List.getD_eq_getElem?_getD, List.getD_eq_getElem?_getD]
  by_cases h : i < xs.length
  · rw [if_pos h, List.getElem?_append_left h]
  · rw [if_neg h, List.getElem?_append_right (by omega)]
    by_cases h2 : i = xs.length
    · rw [if_pos h2, h2, Nat.sub_self]; rfl
    · rw [if_neg h2, List.getElem?_eq_none (by simp; omega)]; rfl
end M
/-! SynF: loops over synapses. -/
namespace M
open L2 G Q
theorem foldO_map {α β S : Type} {f : S → α → Option S} (g : β → α) : ∀ {bs : List β} {s : S}, foldO f s (bs.map g) = foldO (fun s b => f s (g b)) s bs
  | [], s => rfl
  | b :: bs, s => by
    show (f s (g b)).bind _ = (f s (g b)).bind _
    congr 1
    funext s'
    exact foldO_map g
theorem foldO_nts {S : Type} {f : S → Int → Option S} {bs : List Nat} {s : S} : foldO f s (nts bs) = foldO (fun s (b : Nat) => f s (b : Int)) s bs := foldO_map _
theorem syns_eq (N : Network) : N.synapses = (List.range N.synapses.length).map (syn N) := tab_of _ _
theorem upF_id' {α : Type} (f : Nat → α) (k : Nat) : upF f k (f k) = f := by
  funext j
  unfold upF
  by_cases h : j = k
  · rw [if_pos h, h]
  · rw [if_neg h]
section
variable {N : Network}
/-- loops over the synapses -/
theorem foldO_syn {S : Type} {f : S → Synapse → Option S} (I : Nat → S → Prop) (h : ∀ k s, k < N.synapses.length → I k s → ∃ s', f s (syn N k) = some s' ∧ I (k + 1) s') {s : S} (h0 : I 0 s) : ∃ s', foldO f s N.synapses = some s' ∧ I N.synapses.length s' := by
  obtain ⟨s', h1, h2⟩ := foldO_range (f := fun s (z : Int) => f s (syn N z.toNat)) I (n := N.synapses.length) (fun k s hk hs => by
    rw [Int.toNat_natCast]; exact h k s hk hs) h0
  refine ⟨s', ?_, h2⟩
  rw [foldO_nts] at h1
  conv => lhs; rw [syns_eq N]
  rw [foldO_map]
  simpa using h1
end
end M
/-! SubL: a part of a network, as long as it sees the same, does the same. -/
namespace M
open L2 G Q
/-- the neurons that spike in tick t -/
def spk (N : Network) (stim : List (List Int)) (t : Nat) : List Nat := (tickF N (t : Int) (arrK N (runS N stim t).2.1 t) (runS N stim t).1).2
def hst (N : Network) (stim : List (List Int)) (t : Nat) : List Int := stim.getD t [] ++ (spk N stim t).map fun (n : Nat) => N.inputs + (n : Int)
theorem runS_eq (N : Network) (stim : List (List Int)) : ∀ t, (runS N stim t).2.1 = (List.range t).map (hst N stim) ∧ (runS N stim t).2.2 = (List.range t).map (spk N stim)
  | 0 => ⟨rfl, rfl⟩
  | t + 1 => by
    obtain ⟨h1, h2⟩ := runS_eq N stim t
    rw [List.range_succ, List.map_append, List.map_append, ← h1, ← h2]
    exact ⟨rfl, rfl⟩
theorem spk_lt {N : Network} {stim : List (List Int)} {t n : Nat} (h : n ∈ spk N stim t) : n < N.neurons.length := List.mem_range.mp (List.mem_filter.mp h).1
theorem hist_at {N : Network} {stim : List (List Int)} {t u : Nat} (h : u < t) : (runS N stim t).2.1.getD u [] = hst N stim u := by
  rw [(runS_eq N stim t).1, List.getD_eq_getElem?_getD, List.getElem?_map, List.getElem?_range h]
  rfl
structure Sub (N N' : Network) (φ ψ : Nat → Nat) : Prop where
  φlt : ∀ n, n < N'.neurons.length → φ n < N.neurons.length
  ψlt : ∀ j, j < N'.synapses.length → ψ j < N.synapses.length
  rule : N'.rule = N.rule
  neu : ∀ n, n < N'.neurons.length → neu N' n = neu N (φ n)
  tgt : ∀ j, j < N'.synapses.length → φ (tg N' j) = tg N (ψ j)
  inj : ∀ a b, a < N'.neurons.length → b < N'.neurons.length → φ a = φ b → a = b
  pla : ∀ j, j < N'.synapses.length → (syn N' j).plastic = (syn N (ψ j)).plastic
  wgt : ∀ j, j < N'.synapses.length → (syn N' j).weight = (syn N (ψ j)).weight
  perm : ∀ n, n < N'.neurons.length → (((List.range N'.synapses.length).filter fun j => decide (tg N' j = n)).map ψ).Perm ((List.range N.synapses.length).filter fun j => decide (tg N j = φ n))
section
variable {N N' : Network} {φ ψ : Nat → Nat}
/-- two states, alike where D -/
structure SSt (N N' : Network) (φ ψ : Nat → Nat) (D : Nat → Prop) (A A' : FS) : Prop where
  pot : ∀ n, n < N'.neurons.length → D n → A'.pot n = A.pot (φ n)
  rest : ∀ n, n < N'.neurons.length → D n → A'.rest n = A.rest (φ n)
  lsp : ∀ n, n < N'.neurons.length → D n → A'.lsp n = A.lsp (φ n)
  w : ∀ j, j < N'.synapses.length → D (tg N' j) → A'.w j = A.w (ψ j)
  la : ∀ j, j < N'.synapses.length → D (tg N' j) → A'.la j = A.la (ψ j)
theorem sub_tick (W' : WF N') (R : Sub N N' φ ψ) {D : Nat → Prop} {t : Int} {A A' : FS} (S : SSt N N' φ ψ D A A') {p p' : Nat → Bool} (hp : ∀ j, j < N'.synapses.length → D (tg N' j) → p' j = p (ψ j)) :
    SSt N N' φ ψ D (tickF N t ((List.range N.synapses.length).filter p) A).1 (tickF N' t ((List.range N'.synapses.length).filter p') A').1 ∧
      ∀ n, n < N'.neurons.length → D n → (n ∈ (tickF N' t ((List.range N'.synapses.length).filter p') A').2 ↔ φ n ∈ (tickF N t ((List.range N.synapses.length).filter p) A).2) := by
  have hsum : ∀ n, n < N'.neurons.length → D n → ((((List.range N'.synapses.length).filter p').filter fun k => decide (tg N' k = n)).map A'.w).sum = ((((List.range N.synapses.length).filter p).filter fun k => decide (tg N k = φ n)).map A.w).sum := fun n hn hd => by
    rw [List.filter_filter, List.filter_filter]
    have e1 : (List.range N'.synapses.length).filter (fun a => decide (tg N' a = n) && p' a) = ((List.range N'.synapses.length).filter fun a => decide (tg N' a = n)).filter (p ∘ ψ) := by
      rw [List.filter_filter]
      refine List.filter_congr fun j hj => ?_
      have hj := List.mem_range.mp hj
      by_cases c : tg N' j = n
      · rw [Function.comp, hp j hj (by rw [c]; exact hd), Bool.and_comm]
      · simp [c]
    have e3 : (List.range N.synapses.length).filter (fun a => decide (tg N a = φ n) && p a) = ((List.range N.synapses.length).filter fun a => decide (tg N a = φ n)).filter p := by
      rw [List.filter_filter]
      exact List.filter_congr fun j hj => Bool.and_comm ..
    rw [e1, e3]
    have e2 : (((List.range N'.synapses.length).filter fun a => decide (tg N' a = n)).filter (p ∘ ψ)).map A'.w = ((((List.range N'.synapses.length).filter fun a => decide (tg N' a = n)).filter (p ∘ ψ)).map ψ).map A.w := by
      rw [List.map_map]
      refine List.map_congr_left fun j hj => ?_
      obtain ⟨h1, h2⟩ := List.mem_filter.mp (List.mem_filter.mp hj).1
      exact S.w j (List.mem_range.mp h1) (by rw [of_decide_eq_true h2]; exact hd)
    rw [e2, ← List.filter_map]
    exact sum_perm (((R.perm n hn).filter _).map _)
  have hst : ∀ n, n < N'.neurons.length → D n → nstep N' A' (fun n => ((((List.range N'.synapses.length).filter p').filter fun k => decide (tg N' k = n)).map A'.w).sum) n = nstep N A (fun n => ((((List.range N.synapses.length).filter p).filter fun k => decide (tg N k = n)).map A.w).sum) (φ n) := fun n hn hd => by
    unfold nstep
    rw [R.neu n hn, S.pot n hn hd, S.rest n hn hd]
    show stepF _ _ _ (((((List.range N'.synapses.length).filter p').filter fun k => decide (tg N' k = n)).map A'.w).sum) = _
    rw [hsum n hn hd]
  have hf : ∀ n, n < N'.neurons.length → D n → (n ∈ (tickF N' t ((List.range N'.synapses.length).filter p') A').2 ↔ φ n ∈ (tickF N t ((List.range N.synapses.length).filter p) A).2) := fun n hn hd => by
    unfold tickF
    simp only [List.mem_filter, List.mem_range]
    rw [hst n hn hd]
    exact ⟨fun z => ⟨R.φlt n hn, z.2⟩, fun z => ⟨hn, z.2⟩⟩
  have hmem : ∀ j, j < N'.synapses.length → D (tg N' j) → (j ∈ (List.range N'.synapses.length).filter p' ↔ ψ j ∈ (List.range N.synapses.length).filter p) := fun j hj hd => by
    rw [List.mem_filter, List.mem_filter, List.mem_range, List.mem_range, hp j hj hd]
    exact ⟨fun z => ⟨R.ψlt j hj, z.2⟩, fun z => ⟨hj, z.2⟩⟩
  have hlsp : ∀ n, n < N'.neurons.length → D n → (tickF N' t ((List.range N'.synapses.length).filter p') A').1.lsp n = (tickF N t ((List.range N.synapses.length).filter p) A).1.lsp (φ n) := fun n hn hd => by
    show (if n ∈ (tickF N' t ((List.range N'.synapses.length).filter p') A').2 then some t else A'.lsp n) = (if φ n ∈ (tickF N t ((List.range N.synapses.length).filter p) A).2 then some t else A.lsp (φ n))
    rw [S.lsp n hn hd]
    simp only [hf n hn hd]
  have hla : ∀ j, j < N'.synapses.length → D (tg N' j) → (tickF N' t ((List.range N'.synapses.length).filter p') A').1.la j = (tickF N t ((List.range N.synapses.length).filter p) A).1.la (ψ j) := fun j hj hd => by
    show (if j ∈ (List.range N'.synapses.length).filter p' then some t else A'.la j) = (if ψ j ∈ (List.range N.synapses.length).filter p then some t else A.la (ψ j))
    rw [S.la j hj hd]
    simp only [hmem j hj hd]
  refine ⟨⟨fun n hn hd => congrArg (·.1) (hst n hn hd), fun n hn hd => congrArg (·.2.1) (hst n hn hd), hlsp, fun j hj hd => ?_, hla⟩, hf⟩
  have ht := tg_lt W' hj
  have hw1 : (if j ∈ (List.range N'.synapses.length).filter p' then dw N' A'.lsp t j (A'.w j) else A'.w j) = (if ψ j ∈ (List.range N.synapses.length).filter p then dw N A.lsp t (ψ j) (A.w (ψ j)) else A.w (ψ j)) := by
    rw [S.w j hj hd]
    simp only [hmem j hj hd]
    unfold dw
    rw [R.rule, R.pla j hj, ← R.tgt j hj, S.lsp _ ht hd]
  show pw N' (tickF N' t ((List.range N'.synapses.length).filter p') A').1.la (tickF N' t ((List.range N'.synapses.length).filter p') A').2 t j (if j ∈ (List.range N'.synapses.length).filter p' then dw N' A'.lsp t j (A'.w j) else A'.w j) =
    pw N (tickF N t ((List.range N.synapses.length).filter p) A).1.la (tickF N t ((List.range N.synapses.length).filter p) A).2 t (ψ j) (if ψ j ∈ (List.range N.synapses.length).filter p then dw N A.lsp t (ψ j) (A.w (ψ j)) else A.w (ψ j))
  rw [hw1]
  unfold pw
  rw [R.rule, R.pla j hj, ← R.tgt j hj, hla j hj hd]
  simp only [hf _ ht hd]
theorem SSt.mono {D D' : Nat → Prop} {A A' : FS} (S : SSt N N' φ ψ D A A') (h : ∀ n, D' n → D n) : SSt N N' φ ψ D' A A' :=
  ⟨fun n hn hd => S.pot n hn (h n hd), fun n hn hd => S.rest n hn (h n hd), fun n hn hd => S.lsp n hn (h n hd), fun j hj hd => S.w j hj (h _ hd), fun j hj hd => S.la j hj (h _ hd)⟩
/-- runs: D t n: neuron n is told of before tick t -/
theorem sub_run (W' : WF N') (R : Sub N N' φ ψ) {stim stim' : List (List Int)} (D : Nat → Nat → Prop) (hD : ∀ t n, D (t + 1) n → D t n) (hdl : ∀ j, j < N'.synapses.length → (syn N' j).delay = (syn N (ψ j)).delay)
    (hsrc : ∀ (t u j : Nat), j < N'.synapses.length → D (t + 1) (tg N' j) → (u : Int) + (syn N' j).delay = (t : Int) →
      (∀ m, m < N'.neurons.length → D (u + 1) m → (m ∈ spk N' stim' u ↔ φ m ∈ spk N stim u)) → ((syn N' j).source ∈ hst N' stim' u ↔ (syn N (ψ j)).source ∈ hst N stim u)) :
    ∀ t, SSt N N' φ ψ (D t) (runS N stim t).1 (runS N' stim' t).1 ∧ ∀ u, u < t → ∀ m, m < N'.neurons.length → D (u + 1) m → (m ∈ spk N' stim' u ↔ φ m ∈ spk N stim u)
  | 0 => ⟨⟨fun _ _ _ => rfl, fun _ _ _ => rfl, fun _ _ _ => rfl, fun j hj _ => R.wgt j hj, fun _ _ _ => rfl⟩, fun u hu => absurd hu (Nat.not_lt_zero _)⟩
  | t + 1 => by
    obtain ⟨S, h⟩ := sub_run W' R D hD hdl hsrc t
    obtain ⟨S', hf⟩ := sub_tick (t := (t : Int)) W' R (S.mono (D' := D (t + 1)) (hD t)) (p := fun k => decide ((syn N k).delay ≤ (t : Int)) && decide ((syn N k).source ∈ (runS N stim t).2.1.getD (t - (syn N k).delay.toNat) [])) (p' := fun k => decide ((syn N' k).delay ≤ (t : Int)) && decide ((syn N' k).source ∈ (runS N' stim' t).2.1.getD (t - (syn N' k).delay.toNat) [])) (fun j hj hd => by
      have h1 := W'.del j hj
      simp only [← hdl j hj]
      by_cases c : (syn N' j).delay ≤ (t : Int)
      · have hu : t - (syn N' j).delay.toNat < t := by omega
        rw [hist_at hu, hist_at hu]
        congr 1
        exact decide_eq_decide.mpr (hsrc t _ j hj hd (by omega) (h _ hu))
      · simp [c])
    refine ⟨S', fun u hu m hm hd => ?_⟩
    by_cases c : u = t
    · subst c
      exact hf m hm hd
    · exact h u (by omega) m hm hd
end
end M
/-! AdvL: what advance computes. -/
namespace M
open L2 G Q
structure SS where
  pot : Nat → Int
  rest : Nat → Int
  pend : Nat → Nat → Int
def stD (N : Network) (s : SS) : (List Int) × (List Int) × (List (List Int)) := (tab N.neurons.length s.pot, tab N.neurons.length s.rest, tab 15 fun k => tab N.neurons.length (s.pend k))
def adStep (N : Network) (s : SS) (n : Nat) : Int × Int × Bool := stepF (neu N n) (s.pot n) (s.rest n) (s.pend 0 n)
def adFired (N : Network) (s : SS) : List Nat := (List.range N.neurons.length).filter fun n => (adStep N s n).2.2
def adSrc (N : Network) (s : SS) (x : List Int) : List Int := x ++ (adFired N s).map fun (n : Nat) => N.inputs + (n : Int)
/-- what synapse j adds to place k, neuron n -/
def adAdd (N : Network) (src : List Int) (k n j : Nat) : Int := if (decide ((syn N j).source ∈ src) && decide ((syn N j).delay = (k : Int) + 1) && decide (tg N j = n)) = true then (syn N j).weight else 0
def sumTo (f : Nat → Int) : Nat → Int
  | 0 => 0
  | m + 1 => sumTo f m + f m
def adS (N : Network) (s : SS) (x : List Int) : SS := ⟨fun n => (adStep N s n).1, fun n => (adStep N s n).2.1, fun k n => (if k < 14 then s.pend (k + 1) n else 0) + sumTo (adAdd N (adSrc N s x) k n) N.synapses.length⟩
theorem ad_b1 {N : Network} (W : WF N) (s : SS) : foldO (fun (ls1 : (List Int) × (List Int) × (List Int)) lx1 => p_advance_b1 N (stD N s) ls1.1 ls1.2.1 ls1.2.2 lx1) ([], [], []) (nts (List.range N.neurons.length)) =
    some (tab N.neurons.length fun n => (adStep N s n).1, tab N.neurons.length fun n => (adStep N s n).2.1, nts (adFired N s)) := by
  have hb := W.nb
  obtain ⟨s', h1, h2⟩ := foldO_range (f := fun (ls1 : (List Int) × (List Int) × (List Int)) lx1 => p_advance_b1 N (stD N s) ls1.1 ls1.2.1 ls1.2.2 lx1)
    (fun k z => z = (tab k fun n => (adStep N s n).1, tab k fun n => (adStep N s n).2.1, nts ((List.range k).filter fun n => (adStep N s n).2.2))) (n := N.neurons.length) (s := ([], [], [])) (fun k z hk hz => by
      subst hz
      refine ⟨_, ?_, rfl⟩
      have hl : (nts ((List.range k).filter fun n => (adStep N s n).2.2)).length < 16777216 := by
        rw [nts_len]
        have := List.length_filter_le (fun n => (adStep N s n).2.2) (List.range k)
        rw [List.length_range] at this
        omega
      have ts : ∀ f : Nat → Int, tab k f ++ [f k] = tab (k + 1) f := fun f => by unfold tab; rw [List.range_succ, List.map_append]; rfl
      unfold p_advance_b1
      have e0 : atI (tab 15 fun k => tab N.neurons.length (s.pend k)) (0 : Int) = some (tab N.neurons.length (s.pend 0)) := tab_ix (k := 0) (by omega)
      simp only [stD, oS1, oS2, aS2, bS, atI_nat', neu_at hk, tab_at hk, e0, step_eq (W.leak k hk)]
      have e : stepF (neu N k) (s.pot k) (s.rest k) (s.pend 0 k) = adStep N s k := rfl
      have t1 := ts fun n => (adStep N s n).1
      have t2 := ts fun n => (adStep N s n).2.1
      simp only [e, appO_some (show (tab k fun n => (adStep N s n).1).length < 16777216 by rw [tab_len]; omega), appO_some (show (tab k fun n => (adStep N s n).2.1).length < 16777216 by rw [tab_len]; omega), bS, t1, t2]
      rw [List.range_succ, List.filter_append, List.filter_cons, List.filter_nil, nts_append]
      cases hc : (adStep N s k).2.2 with
      | true =>
        simp only [if_true, appO_some hl, bS]
        rfl
      | false =>
        simp only [Bool.false_eq_true, if_false, nts, List.map_nil, List.append_nil]) rfl
  rw [h1, h2]
  rfl
theorem atJ_tab {α : Type} {n k : Nat} {f : Nat → α} (h : k < n) : atJ (tab n f) (k : Int) = some (k, f k) := by
  unfold atJ ixN
  rw [tab_len, if_pos (by omega), if_pos (by omega), bS, Int.toNat_natCast, tab_at h]
  rfl
theorem ad_b2 {N : Network} (W : WF N) (hd : ∀ j, j < N.synapses.length → (syn N j).delay ≤ 15) (src : List Int) (P : Nat → Nat → Int) : foldO (fun (ls2 : (List (List Int))) lx2 => p_advance_b2 src ls2 lx2) (tab 15 fun k => tab N.neurons.length (P k)) N.synapses =
    some (tab 15 fun k => tab N.neurons.length fun n => P k n + sumTo (adAdd N src k n) N.synapses.length) := by
  obtain ⟨s', h1, h2⟩ := foldO_syn (N := N) (f := fun (ls2 : (List (List Int))) lx2 => p_advance_b2 src ls2 lx2) (fun j z => z = tab 15 fun k => tab N.neurons.length fun n => P k n + sumTo (adAdd N src k n) j) (s := tab 15 fun k => tab N.neurons.length (P k)) (fun j z hj hz => by
    subst hz
    refine ⟨_, ?_, rfl⟩
    have htg := tg_lt W hj
    have d1 := W.del j hj
    have d2 := hd j hj
    unfold p_advance_b2
    simp only [oS1, oS2, bS]
    by_cases c : (syn N j).source ∈ src
    · have e1 : (syn N j).delay - 1 = (((syn N j).delay - 1).toNat : Int) := by omega
      have hk : ((syn N j).delay - 1).toNat < 15 := by omega
      have hat : atJ (tab 15 fun k => tab N.neurons.length fun n => P k n + sumTo (adAdd N src k n) j) ((syn N j).delay - 1) = some (((syn N j).delay - 1).toNat, tab N.neurons.length fun n => P ((syn N j).delay - 1).toNat n + sumTo (adAdd N src ((syn N j).delay - 1).toNat n) j) := by
        rw [e1]
        exact atJ_tab hk
      simp only [decide_eq_true c, if_true, hat, bS, tg_eq W hj, atI_nat', tab_at htg, setO_tab htg, tab_set]
      congr 1
      refine tab_congr fun k _ => ?_
      unfold upF
      by_cases ck : k = ((syn N j).delay - 1).toNat
      · rw [if_pos ck]
        refine tab_congr fun n _ => ?_
        by_cases cn : n = tg N j
        · rw [if_pos cn]
          show _ = P k n + (sumTo (adAdd N src k n) j + adAdd N src k n j)
          have : adAdd N src k n j = (syn N j).weight := by
            unfold adAdd
            rw [if_pos (by rw [decide_eq_true c, decide_eq_true (show (syn N j).delay = (k : Int) + 1 by omega), decide_eq_true cn.symm]; rfl)]
          rw [this, ← ck, cn]
          omega
        · rw [if_neg cn]
          dsimp only
          show _ = P k n + (sumTo (adAdd N src k n) j + adAdd N src k n j)
          have : adAdd N src k n j = 0 := by
            unfold adAdd
            rw [if_neg (by rw [decide_eq_false (show ¬ tg N j = n from fun e => cn e.symm)]; simp)]
          rw [this, ← ck]
          omega
      · rw [if_neg ck]
        refine tab_congr fun n _ => ?_
        show _ = P k n + (sumTo (adAdd N src k n) j + adAdd N src k n j)
        have : adAdd N src k n j = 0 := by
          unfold adAdd
          rw [if_neg (by rw [decide_eq_false (show ¬ (syn N j).delay = (k : Int) + 1 by omega)]; simp)]
        rw [this]
        omega
    · simp only [decide_eq_false c, Bool.false_eq_true, if_false]
      congr 1
      refine tab_congr fun k _ => tab_congr fun n _ => ?_
      show _ = P k n + (sumTo (adAdd N src k n) j + adAdd N src k n j)
      have : adAdd N src k n j = 0 := by
        unfold adAdd
        rw [if_neg (by rw [decide_eq_false c]; simp)]
      rw [this]
      omega) (by
    show _ = _
    exact tab_congr fun k _ => tab_congr fun n _ => by show _ = P k n + 0; omega)
  rw [h1, h2]
theorem advance_eq {N : Network} (W : WF N) (hd : ∀ j, j < N.synapses.length → (syn N j).delay ≤ 15) (s : SS) {x : List Int} (hx : x.length ≤ 1000) : p_advance N (stD N s) x = some (stD N (adS N s x), nts (adFired N s)) := by
  have hb := W.nb
  have h1 := ad_b1 W s
  have hz : compO (fun _ => some true) (fun _ => some (0 : Int)) N.neurons = some (tab N.neurons.length fun _ => 0) := by
    rw [compO_map (g := fun _ => 0) fun _ _ => rfl]
    congr 1
    rw [List.map_const']
    unfold tab
    rw [List.map_const', List.length_range]
  have hcut : cutU (tab 15 fun k => tab N.neurons.length (s.pend k)) (some 1) none = some (tab 14 fun k => tab N.neurons.length (s.pend (k + 1))) := by
    unfold cutU
    rw [tab_len, if_neg (by decide)]
    unfold cutG
    rw [tab_len]
    rfl
  have hsz : szG (tab 14 fun k => tab N.neurons.length (s.pend (k + 1))) = some (tab 14 fun k => tab N.neurons.length (s.pend (k + 1))) := by
    unfold szG
    rw [if_pos (by rw [tab_len]; omega)]
  have hid : ∀ xs : List (List Int), compO (fun _ => some true) (fun sums => some sums) xs = some xs := fun xs => by
    rw [compO_map (g := fun z => z) fun _ _ => rfl, List.map_id']
  have happ : (tab 14 fun k => tab N.neurons.length (s.pend (k + 1))) ++ [tab N.neurons.length fun _ => 0] = tab 15 fun k => tab N.neurons.length fun n => if k < 14 then s.pend (k + 1) n else 0 := by rfl
  have hfl : (adFired N s).length ≤ N.neurons.length := by
    have := List.length_filter_le (fun n => (adStep N s n).2.2) (List.range N.neurons.length)
    rwa [List.length_range] at this
  have hc : compO (fun _ => some true) (fun n => some (N.inputs + n)) (nts (adFired N s)) = some ((adFired N s).map fun (n : Nat) => N.inputs + (n : Int)) := compO_nts fun k _ => rfl
  have h2 := ad_b2 W hd (adSrc N s x) fun k n => if k < 14 then s.pend (k + 1) n else 0
  unfold p_advance
  simp only [oS1, oS2, oS3, aS2, bS, rngG_nat (show N.neurons.length ≤ 16777216 by omega), h1, hc]
  have e22 : (stD N s).2.2 = tab 15 fun k => tab N.neurons.length (s.pend k) := rfl
  rw [e22, hcut]
  simp only [bS, hsz, hid, hz, appO_some (show (tab 14 fun k => tab N.neurons.length (s.pend (k + 1))).length < 16777216 by rw [tab_len]; omega), happ, catG_some (show x.length + ((adFired N s).map fun (n : Nat) => N.inputs + (n : Int)).length ≤ 16777216 by rw [List.length_map]; omega)]
  have e3 : x ++ (adFired N s).map (fun (n : Nat) => N.inputs + (n : Int)) = adSrc N s x := rfl
  rw [e3, h2]
  rfl
def zeroS : SS := ⟨fun _ => 0, fun _ => 0, fun _ _ => 0⟩
theorem initial_eq {N : Network} (W : WF N) : p_initial_state N = some (stD N zeroS) := by
  have hz : compO (fun _ => some true) (fun _ => some (0 : Int)) N.neurons = some (tab N.neurons.length fun _ => 0) := by
    rw [compO_map (g := fun _ => 0) fun _ _ => rfl]
    congr 1
    rw [List.map_const']
    unfold tab
    rw [List.map_const', List.length_range]
  have h15 : ∀ zs : List Int, compO (fun _ => some true) (fun _ => some zs) (nts (List.range 15)) = some (tab 15 fun _ => zs) := fun zs => compO_nts (g := fun _ => zs) fun _ _ => rfl
  unfold p_initial_state
  have hr : rngG 15 = some (nts (List.range 15)) := rngG_nat (n := 15) (by omega)
  simp only [oS1, bS, hz, hr, h15, aS2]
  rfl
theorem bitAnd_one (x : Int) : PySem.Builtin.bitAnd x 1 = x % 2 := by
  have := Bits.bit_at (x := x) 0
  simpa using this
theorem stimulus_of_eq {N : Network} {i : Nat} (hin : N.inputs = (i : Int)) (hi : i ≤ 1000) (num : Int) : p_stimulus_of N num = some (nts ((List.range i).filter fun j => decide (num / 2 ^ j % 2 = 1))) := by
  unfold p_stimulus_of
  simp only [oS1, bS, hin, rngG_nat (show i ≤ 16777216 by omega)]
  refine compO_nts' fun j hj => ?_
  simp only [oS2, shrG_nn (show (0 : Int) ≤ (j : Int) by omega), bitAnd_one, Int.toNat_natCast]
end M
/-! AdvRunL: advance, tick by tick, and run. -/
namespace M
open L2 G Q
/-- the states, tick by tick -/
def sRun (N : Network) (stim : List (List Int)) : Nat → SS
  | 0 => zeroS
  | t + 1 => adS N (sRun N stim t) (stim.getD t [])
theorem sumTo_congr {f g : Nat → Int} : ∀ {m : Nat}, (∀ j, j < m → f j = g j) → sumTo f m = sumTo g m
  | 0, _ => rfl
  | m + 1, h => by
    show sumTo f m + f m = sumTo g m + g m
    rw [sumTo_congr fun j hj => h j (by omega), h m (by omega)]
theorem sumTo_add {f g : Nat → Int} : ∀ m : Nat, sumTo f m + sumTo g m = sumTo (fun j => f j + g j) m
  | 0 => rfl
  | m + 1 => by
    show (sumTo f m + f m) + (sumTo g m + g m) = sumTo (fun j => f j + g j) m + (f m + g m)
    rw [← sumTo_add m]
    omega
theorem sumTo_zero : ∀ m : Nat, sumTo (fun _ => 0) m = 0
  | 0 => rfl
  | m + 1 => by
    show sumTo (fun _ => 0) m + 0 = 0
    rw [sumTo_zero m]
    rfl
theorem sumTo_filter (p : Nat → Bool) (w : Nat → Int) : ∀ m : Nat, (((List.range m).filter p).map w).sum = sumTo (fun j => if p j = true then w j else 0) m
  | 0 => rfl
  | m + 1 => by
    rw [List.range_succ, List.filter_append, List.map_append, List.sum_append, sumTo_filter p w m, List.filter_cons, List.filter_nil]
    show _ = sumTo _ m + (if p m = true then w m else 0)
    by_cases c : p m = true
    · rw [if_pos c, if_pos c]; simp
    · rw [if_neg c, if_neg c]; simp
section
variable {N : Network} {stim : List (List Int)}
theorem noRule_w (hr : N.rule = none) : ∀ t k, (runS N stim t).1.w k = (syn N k).weight
  | 0, k => rfl
  | t + 1, k => by
    have e : (runS N stim (t + 1)).1 = (tickF N (t : Int) (arrK N (runS N stim t).2.1 t) (runS N stim t).1).1 := rfl
    rw [e]
    unfold tickF pw dw
    rw [hr]
    dsimp only
    rw [noRule_w hr t k]
    simp
/-- what is to come k ticks on -/
def toCome (N : Network) (stim : List (List Int)) (t k n j : Nat) : Int := if (decide (tg N j = n) && decide ((k : Int) < (syn N j).delay) && (decide ((syn N j).delay ≤ (t : Int) + k) && decide ((syn N j).source ∈ hst N stim (t + k - (syn N j).delay.toNat)))) = true then (syn N j).weight else 0
structure AdvOk (N : Network) (stim : List (List Int)) (t : Nat) : Prop where
  pot : ∀ n, n < N.neurons.length → (sRun N stim t).pot n = (runS N stim t).1.pot n
  rest : ∀ n, n < N.neurons.length → (sRun N stim t).rest n = (runS N stim t).1.rest n
  pend : ∀ k, k < 15 → ∀ n, n < N.neurons.length → (sRun N stim t).pend k n = sumTo (toCome N stim t k n) N.synapses.length
theorem adv_step (W : WF N) (hr : N.rule = none) {t : Nat} (h : AdvOk N stim t) {n : Nat} (hn : n < N.neurons.length) : adStep N (sRun N stim t) n = nstep N (runS N stim t).1 (fun n => (((arrK N (runS N stim t).2.1 t).filter fun k => decide (tg N k = n)).map (runS N stim t).1.w).sum) n := by
  unfold adStep nstep
  rw [h.pot n hn, h.rest n hn, h.pend 0 (by omega) n hn]
  congr 1
  unfold arrK
  dsimp only
  rw [List.filter_filter, sumTo_filter]
  refine sumTo_congr fun j hj => ?_
  unfold toCome
  rw [noRule_w hr]
  have hd := W.del j hj
  have e1 : decide (((0 : Nat) : Int) < (syn N j).delay) = true := decide_eq_true (by omega)
  rw [e1, Bool.and_true]
  have e2 : ((t : Int) + ((0 : Nat) : Int)) = (t : Int) := by omega
  rw [e2, Nat.add_zero]
  by_cases c : (syn N j).delay ≤ (t : Int)
  · rw [hist_at (show t - (syn N j).delay.toNat < t by omega)]
  · simp [c]
theorem adv_fired (W : WF N) (hr : N.rule = none) {t : Nat} (h : AdvOk N stim t) : adFired N (sRun N stim t) = spk N stim t := by
  unfold adFired spk tickF
  refine List.filter_congr fun n hn => ?_
  rw [adv_step W hr h (List.mem_range.mp hn)]
theorem adv_ok (W : WF N) (hr : N.rule = none) (hd : ∀ j, j < N.synapses.length → (syn N j).delay ≤ 15) : ∀ t, AdvOk N stim t
  | 0 => ⟨fun _ _ => rfl, fun _ _ => rfl, fun k hk n hn => by
    show (0 : Int) = _
    rw [sumTo_congr (g := fun _ => 0) fun j hj => ?_, sumTo_zero]
    unfold toCome
    by_cases c : (k : Int) < (syn N j).delay
    · rw [if_neg]
      rw [decide_eq_false (show ¬ (syn N j).delay ≤ ((0 : Nat) : Int) + (k : Int) by omega)]
      simp
    · rw [if_neg]
      rw [decide_eq_false c]
      simp⟩
  | t + 1 => by
    have h := adv_ok W hr hd t
    refine ⟨fun n hn => ?_, fun n hn => ?_, fun k hk n hn => ?_⟩
    · show (adStep N (sRun N stim t) n).1 = _
      rw [adv_step W hr h hn]
      rfl
    · show (adStep N (sRun N stim t) n).2.1 = _
      rw [adv_step W hr h hn]
      rfl
    · show (if k < 14 then (sRun N stim t).pend (k + 1) n else 0) + sumTo (adAdd N (adSrc N (sRun N stim t) (stim.getD t [])) k n) N.synapses.length = _
      have hsrc : adSrc N (sRun N stim t) (stim.getD t []) = hst N stim t := by
        unfold adSrc hst
        rw [adv_fired W hr h]
      rw [hsrc]
      have hp : (if k < 14 then (sRun N stim t).pend (k + 1) n else 0) = sumTo (toCome N stim t (k + 1) n) N.synapses.length := by
        by_cases c : k < 14
        · rw [if_pos c]
          exact h.pend (k + 1) (by omega) n hn
        · rw [if_neg c, sumTo_congr (g := fun _ => 0) fun j hj => ?_, sumTo_zero]
          unfold toCome
          have := hd j hj
          rw [if_neg]
          rw [decide_eq_false (show ¬ ((k + 1 : Nat) : Int) < (syn N j).delay by omega)]
          simp
      rw [hp, sumTo_add]
      refine sumTo_congr fun j hj => ?_
      unfold toCome adAdd
      by_cases ct : tg N j = n
      · simp only [decide_eq_true ct, Bool.true_and, Bool.and_true]
        by_cases cd : (syn N j).delay = (k : Int) + 1
        · have e1 : decide (((k + 1 : Nat) : Int) < (syn N j).delay) = false := decide_eq_false (by omega)
          have e2 : decide ((k : Int) < (syn N j).delay) = true := decide_eq_true (by omega)
          have e3 : decide ((syn N j).delay ≤ ((t + 1 : Nat) : Int) + (k : Int)) = true := decide_eq_true (by omega)
          have e4 : t + 1 + k - (syn N j).delay.toNat = t := by omega
          rw [e1, e2, e3, e4, decide_eq_true cd]
          simp
        · by_cases ck : (k : Int) < (syn N j).delay
          · have e1 : decide (((k + 1 : Nat) : Int) < (syn N j).delay) = true := decide_eq_true (by omega)
            have e4 : t + 1 + k - (syn N j).delay.toNat = t + (k + 1) - (syn N j).delay.toNat := by omega
            have e5 : ((t + 1 : Nat) : Int) + (k : Int) = (t : Int) + ((k + 1 : Nat) : Int) := by omega
            rw [e1, decide_eq_true ck, decide_eq_false cd, e4, e5]
            simp
          · have e1 : decide (((k + 1 : Nat) : Int) < (syn N j).delay) = false := decide_eq_false (by omega)
            rw [e1, decide_eq_false ck, decide_eq_false cd]
            simp
      · simp [ct]
end
end M
/-! ClaimL: claims, watches, what breaks. -/
namespace M
open L2 G Q PySem
inductive Cl where
  | nv (n : Nat)
  | ap (a b : Nat)
  | an (i n d : Nat)
  deriving DecidableEq
def enc : Cl → List SI
  | .nv n => [.s "never", .i (n : Int)]
  | .ap a b => [.s "apart", .i (a : Int), .i (b : Int)]
  | .an i n d => [.s "answer", .i (i : Int), .i (n : Int), .i (d : Int)]
def isB (c : Cl) (w : Int) (sp : List Int) : Bool := match c with
  | .nv n => decide ((n : Int) ∈ sp)
  | .ap a b => decide ((a : Int) ∈ sp) && decide ((b : Int) ∈ sp)
  | .an _ n _ => decide (w = 1) && !decide ((n : Int) ∈ sp)
def dec1 (n : Nat) (w : Int) (sp : List Int) : Int := if w > 0 then (if (n : Int) ∈ sp then 0 else w - 1) else w
def nextW (c : Cl) (w : Int) (st sp : List Int) : Int := match c with
  | .nv _ => 0
  | .ap _ _ => 0
  | .an i n d => if dec1 n w sp = 0 ∧ (i : Int) ∈ st then (d : Int) else dec1 n w sp
theorem d_nn : decide (("never" : Str) = "never") = true := by decide +kernel
theorem d_an : decide (("apart" : Str) = "never") = false := by decide +kernel
theorem d_sn : decide (("answer" : Str) = "never") = false := by decide +kernel
theorem d_aa : decide (("apart" : Str) = "apart") = true := by decide +kernel
theorem d_sa : decide (("answer" : Str) = "apart") = false := by decide +kernel
theorem d_ns : decide (("never" : Str) = "answer") = false := by decide +kernel
theorem d_as : decide (("apart" : Str) = "answer") = false := by decide +kernel
theorem d_ss : decide (("answer" : Str) = "answer") = true := by decide +kernel
theorem at0 {x : SI} {xs : List SI} : atI (x :: xs) (0 : Int) = some x := atI_nat' (k := 0)
theorem at1 {x y : SI} {xs : List SI} : atI (x :: y :: xs) (1 : Int) = some y := atI_nat' (k := 1)
theorem at2 {x y z : SI} {xs : List SI} : atI (x :: y :: z :: xs) (2 : Int) = some z := atI_nat' (k := 2)
theorem at3 {x y z u : SI} {xs : List SI} : atI (x :: y :: z :: u :: xs) (3 : Int) = some u := atI_nat' (k := 3)
theorem sI (n : Int) : SI.int (.i n) = some n := rfl
theorem sS (x : Str) : SI.str (.s x) = some x := rfl
theorem broken_eq (c : Cl) (w : Int) (sp : List Int) : p_is_broken (enc c) w sp = some (isB c w sp) := by
  unfold p_is_broken
  cases c with
  | nv n => simp only [enc, decide_true, oS2, at0, at1, bS, sS, sI, d_nn, if_true, isB]
  | ap a b => simp only [enc, decide_true, oS2, at0, at1, at2, bS, sS, sI, d_an, d_aa, Bool.false_eq_true, if_false, if_true, Q.andO_some, isB]
  | an i n d => simp only [enc, decide_true, oS2, at0, at2, bS, sS, sI, d_sn, d_sa, Bool.false_eq_true, if_false, Q.andO_some, isB]
theorem nextW_eq (c : Cl) (w : Int) (st sp : List Int) : p_next_watch (enc c) w st sp = some (nextW c w st sp) := by
  unfold p_next_watch
  cases c with
  | nv n => simp only [enc, decide_true, oS2, at0, bS, sS, d_ns, Bool.not_false, if_true, nextW]
  | ap a b => simp only [enc, decide_true, oS2, at0, bS, sS, d_as, Bool.not_false, if_true, nextW]
  | an i n d =>
    simp only [enc, decide_true, oS2, at0, at1, at2, at3, bS, sS, sI, d_ss, Bool.not_true, Bool.false_eq_true, if_false, Q.andO_some, nextW]
    have h1 : ((if decide (0 < w) = true then ((if decide ((n : Int) ∈ sp) = true then some (0 : Int) else some (w - 1)).bind fun watch => some watch) else some w)) = some (dec1 n w sp) := by
      unfold dec1
      by_cases c1 : 0 < w
      · by_cases c2 : (n : Int) ∈ sp
        · simp [c1, c2]
        · simp [c1, c2]
      · simp [c1]
    rw [h1, bS]
    by_cases c1 : dec1 n w sp = 0
    · by_cases c2 : (i : Int) ∈ st
      · simp [c1, c2]
      · simp [c1, c2]
    · simp [c1]
/-- a claim breaks in tick t, by what it says -/
def brk (c : Cl) (st sp : Nat → List Int) (t : Nat) : Bool := match c with
  | .nv n => decide ((n : Int) ∈ sp t)
  | .ap a b => decide ((a : Int) ∈ sp t) && decide ((b : Int) ∈ sp t)
  | .an i n d => decide (d ≤ t) && (decide ((i : Int) ∈ st (t - d)) && !(List.range d).any fun k => decide ((n : Int) ∈ sp (t - d + 1 + k)))
def wat (c : Cl) (st sp : Nat → List Int) : Nat → Int
  | 0 => 0
  | t + 1 => nextW c (wat c st sp t) (st t) (sp t)
def ClOk : Cl → Prop
  | .an _ _ d => 1 ≤ d
  | _ => True
theorem brk_an {i n d : Nat} {st sp : Nat → List Int} {t : Nat} : brk (.an i n d) st sp t = true ↔ d ≤ t ∧ (i : Int) ∈ st (t - d) ∧ ∀ v, t - d < v → v ≤ t → ¬ (n : Int) ∈ sp v := by
  unfold brk
  simp only [Bool.and_eq_true, decide_eq_true_iff, Bool.not_eq_true']
  constructor
  · intro ⟨h1, h2, h3⟩
    refine ⟨h1, h2, fun v hv1 hv2 hm => ?_⟩
    have := List.any_eq_false.mp h3 (v - (t - d + 1)) (List.mem_range.mpr (by omega))
    rw [show t - d + 1 + (v - (t - d + 1)) = v by omega] at this
    exact this (decide_eq_true hm)
  · intro ⟨h1, h2, h3⟩
    refine ⟨h1, h2, List.any_eq_false.mpr fun k hk => ?_⟩
    have hk := List.mem_range.mp hk
    have := h3 (t - d + 1 + k) (by omega) (by omega)
    simpa using this
structure WI (i n d : Nat) (st sp : Nat → List Int) (t : Nat) (w : Int) : Prop where
  nn : 0 ≤ w
  due : 0 < w → ∃ u : Nat, u < t ∧ (u : Int) + d + 1 = t + w ∧ (i : Int) ∈ st u ∧ ∀ v, u < v → v < t → ¬ (n : Int) ∈ sp v
  old : ∀ u, u < t → (i : Int) ∈ st u → (∀ v, u < v → v < t → ¬ (n : Int) ∈ sp v) → 0 < w ∧ (t : Int) + w ≤ u + d + 1
theorem wi_brk {i n d : Nat} (hd : 1 ≤ d) {st sp : Nat → List Int} {t : Nat} {w : Int} (h : WI i n d st sp t w) : isB (.an i n d) w (sp t) = brk (.an i n d) st sp t := by
  have e : isB (.an i n d) w (sp t) = true ↔ brk (.an i n d) st sp t = true := by
    rw [brk_an]
    unfold isB
    simp only [Bool.and_eq_true, decide_eq_true_iff, Bool.not_eq_true', decide_eq_false_iff_not]
    constructor
    · intro ⟨h1, h2⟩
      obtain ⟨u, hu, e, hi, hv⟩ := h.due (by omega)
      refine ⟨by omega, by rw [show t - d = u by omega]; exact hi, fun v hv1 hv2 => ?_⟩
      by_cases c : v = t
      · rw [c]; exact h2
      · exact hv v (by omega) (by omega)
    · intro ⟨h1, h2, h3⟩
      have := h.old (t - d) (by omega) h2 fun v a b => h3 v a (by omega)
      have h4 := h.due this.1
      obtain ⟨u, hu, e, _⟩ := h4
      exact ⟨by omega, h3 t (by omega) (Nat.le_refl _)⟩
  cases a : isB (.an i n d) w (sp t) with
  | true => exact (e.mp a).symm
  | false =>
    cases b : brk (.an i n d) st sp t with
    | true => rw [e.mpr b] at a; cases a
    | false => rfl
theorem wi_step {i n d : Nat} (hd : 1 ≤ d) {st sp : Nat → List Int} {t : Nat} {w : Int} (h : WI i n d st sp t w) (hb : brk (.an i n d) st sp t = false) : WI i n d st sp (t + 1) (nextW (.an i n d) w (st t) (sp t)) := by
  have hnb : ¬ (w = 1 ∧ ¬ (n : Int) ∈ sp t) := fun ⟨a, b⟩ => by
    rw [← wi_brk hd h] at hb
    unfold isB at hb
    dsimp only at hb
    rw [decide_eq_true a, decide_eq_false b] at hb
    cases hb
  have nn := h.nn
  unfold nextW
  dsimp only
  have hdc : dec1 n w (sp t) = (if w > 0 then (if (n : Int) ∈ sp t then 0 else w - 1) else w) := rfl
  by_cases c1 : dec1 n w (sp t) = 0
  · -- nothing is owed behind the step
    have none : ∀ u, u < t → (i : Int) ∈ st u → (∀ v, u < v → v < t + 1 → ¬ (n : Int) ∈ sp v) → False := fun u hu hi hv => by
      have h1 := h.old u hu hi fun v a b => hv v a (by omega)
      have h2 := hv t hu (by omega)
      rw [hdc, if_pos h1.1, if_neg h2] at c1
      exact hnb ⟨by omega, h2⟩
    by_cases c2 : (i : Int) ∈ st t
    · rw [if_pos ⟨c1, c2⟩]
      refine ⟨by omega, fun _ => ⟨t, by omega, by omega, c2, fun v a b => by omega⟩, fun u hu hi hv => ?_⟩
      by_cases c3 : u = t
      · exact ⟨by omega, by omega⟩
      · exact (none u (by omega) hi hv).elim
    · rw [if_neg fun q => c2 q.2, c1]
      refine ⟨Int.le_refl _, fun q => by omega, fun u hu hi hv => ?_⟩
      by_cases c3 : u = t
      · rw [c3] at hi; exact absurd hi c2
      · exact (none u (by omega) hi hv).elim
  · rw [if_neg fun q => c1 q.1]
    have hw : 0 < w := by
      by_cases q : w > 0
      · exact q
      · rw [hdc, if_neg q] at c1; omega
    have hn : ¬ (n : Int) ∈ sp t := fun q => by rw [hdc, if_pos hw, if_pos q] at c1; exact c1 rfl
    have e : dec1 n w (sp t) = w - 1 := by rw [hdc, if_pos hw, if_neg hn]
    rw [e]
    rw [e] at c1
    obtain ⟨u, hu, e2, hi, hv⟩ := h.due hw
    refine ⟨by omega, fun _ => ⟨u, by omega, by omega, hi, fun v a b => ?_⟩, fun u' hu' hi' hv' => ?_⟩
    · by_cases c : v = t
      · rw [c]; exact hn
      · exact hv v a (by omega)
    · by_cases c : u' = t
      · exact ⟨by omega, by omega⟩
      · have := h.old u' (by omega) hi' fun v a b => hv' v a (by omega)
        exact ⟨by omega, by omega⟩
theorem wi_all {i n d : Nat} (hd : 1 ≤ d) {st sp : Nat → List Int} : ∀ t, (∀ u, u < t → brk (.an i n d) st sp u = false) → WI i n d st sp t (wat (.an i n d) st sp t)
  | 0, _ => ⟨Int.le_refl _, fun q => by have : (0 : Int) < 0 := q; omega, fun u hu => by omega⟩
  | t + 1, h => wi_step hd (wi_all hd t fun u hu => h u (by omega)) (h t (by omega))
/-- as long as nothing broke before, the watch tells what breaks -/
theorem told_eq {c : Cl} (hc : ClOk c) {st sp : Nat → List Int} {t : Nat} (h : ∀ u, u < t → brk c st sp u = false) : isB c (wat c st sp t) (sp t) = brk c st sp t := by
  cases c with
  | nv n => rfl
  | ap a b => rfl
  | an i n d => exact wi_brk hc (wi_all hc t h)
theorem wat_zero {c : Cl} (hc : ∀ i n d, c ≠ .an i n d) {st sp : Nat → List Int} : ∀ t, wat c st sp t = 0
  | 0 => rfl
  | t + 1 => by
    cases c with
    | nv n => rfl
    | ap a b => rfl
    | an i n d => exact absurd rfl (hc i n d)
end M
namespace M
open L2 G Q PySem
theorem netF_del (ns : List Int) (l : Bool) : ∀ j, j < (netF ns l).synapses.length → (syn (netF ns l) j).delay ≤ 15 := fun j hj => by
  obtain ⟨c, e⟩ := netF_syn hj
  rw [e]
  unfold synF
  dsimp only
  split <;> omega
section
variable (cs : List Cl) (st sp : Nat → List Int)
def cAt (cs : List Cl) (k : Nat) : Cl := cs.getD k (.nv 0)
theorem cAt_at {cs : List Cl} {k : Nat} (h : k < cs.length) : (cs.map enc)[k]? = some (enc (cAt cs k)) ∧ cAt cs k ∈ cs := by
  unfold cAt
  rw [List.getD_eq_getElem?_getD, List.getElem?_map, List.getElem?_eq_getElem h]
  exact ⟨rfl, List.getElem_mem h⟩
def brkTo (c : Cl) (st sp : Nat → List Int) (t : Nat) : Bool := (List.range t).any (brk c st sp)
theorem brkTo_succ (c : Cl) (st sp : Nat → List Int) (t : Nat) : brkTo c st sp (t + 1) = (brkTo c st sp t || brk c st sp t) := by
  unfold brkTo
  rw [List.range_succ, List.any_append]
  simp
end
theorem breaks_eq {c : Cl} (hc : ClOk c) {stim spikes : List (List Int)} (hl : stim.length = spikes.length) (hb : stim.length ≤ 1000) {t : Nat} (ht : t < stim.length) : l_breaks (enc c) stim spikes (t : Int) = some (brk c (fun t => stim.getD t []) (fun t => spikes.getD t []) t) := by
  have hgs : ∀ v, v < stim.length → atI spikes (v : Int) = some (spikes.getD v []) := fun v hv => by
    rw [atI_nat', List.getD_eq_getElem?_getD, List.getElem?_eq_getElem (by omega)]; rfl
  have hgt : ∀ v, v < stim.length → atI stim (v : Int) = some (stim.getD v []) := fun v hv => by
    rw [atI_nat', List.getD_eq_getElem?_getD, List.getElem?_eq_getElem (by omega)]; rfl
  unfold l_breaks
  cases c with
  | nv n => simp only [enc, decide_true, oS2, at0, at1, bS, sS, sI, if_true, hgs t ht, brk]
  | ap a b => simp only [enc, decide_true, oS2, at0, at1, at2, bS, sS, sI, d_an, Bool.false_eq_true, if_false, if_true, hgs t ht, Q.andO_some, brk]
  | an i n d =>
    have hd : 1 ≤ d := hc
    simp only [enc, decide_true, oS2, at0, at1, at2, at3, bS, sS, sI, d_sn, d_sa, Bool.false_eq_true, if_false]
    by_cases c1 : (t : Int) - (d : Int) < 0
    · rw [decide_eq_true c1, orO_T, bS, if_pos rfl]
      unfold brk
      dsimp only
      rw [decide_eq_false (show ¬ d ≤ t by omega), Bool.false_and]
    · have e1 : (t : Int) - (d : Int) = ((t - d : Nat) : Int) := by omega
      rw [decide_eq_false c1, orO_F, e1, hgt (t - d) (by omega)]
      simp only [oS2, bS]
      by_cases c2 : (i : Int) ∈ stim.getD (t - d) []
      · rw [decide_eq_true c2]
        simp only [Bool.not_true, Bool.false_eq_true, if_false]
        have e2 : ((t - d : Nat) : Int) + 1 = ((t - d + 1 : Nat) : Int) := by omega
        have e3 : (t : Int) + 1 = ((t + 1 : Nat) : Int) := by omega
        rw [e2, e3, rngG2_nat (by omega) (by omega), bS]
        have hn : t + 1 - (t - d + 1) = d := by omega
        rw [hn]
        have hf := forO_any (f := fun (ls1 : Unit) lx1 => l_breaks_b1 [.s "answer", .i (i : Int), .i (n : Int), .i (d : Int)] spikes lx1) (s := ()) (r := false) (p := fun z => decide ((n : Int) ∈ spikes.getD z.toNat [])) (xs := nts ((List.range d).map ((t - d + 1) + ·))) fun x hx => by
          obtain ⟨v, hv, rfl⟩ := mem_nts'.mp hx
          obtain ⟨k, hk, rfl⟩ := List.mem_map.mp hv
          have hk := List.mem_range.mp hk
          unfold l_breaks_b1
          simp only [oS2, at2, bS, sI, hgs (t - d + 1 + k) (by omega), Int.toNat_natCast]
          split <;> rfl
        rw [hf, bS]
        unfold brk
        dsimp only
        rw [decide_eq_true (show d ≤ t by omega), decide_eq_true c2, Bool.true_and, Bool.true_and]
        have ea : (nts ((List.range d).map ((t - d + 1) + ·))).any (fun z => decide ((n : Int) ∈ spikes.getD z.toNat [])) = (List.range d).any fun k => decide ((n : Int) ∈ spikes.getD (t - d + 1 + k) []) := by
          unfold nts
          rw [List.any_map, List.any_map]
          rfl
        rw [ea]
        cases q : (List.range d).any fun k => decide ((n : Int) ∈ spikes.getD (t - d + 1 + k) []) with
        | true => rfl
        | false => rfl
      · rw [decide_eq_false c2]
        simp only [Bool.not_false, if_true]
        unfold brk
        dsimp only
        rw [decide_eq_false c2, Bool.false_and, Bool.and_false]
/-- the law's claims -/
def claimsF (ns : List Int) (inp many : Nat) : List Cl :=
  [.nv (ns.getD 47 0 % (many : Int)).toNat, .an (ns.getD 47 0 / 5 % (inp : Int)).toNat (ns.getD 47 0 / 15 % (many : Int)).toNat (1 + ns.getD 47 0 / 75 % 6).toNat] ++
    if 1 < many then [.ap (ns.getD 47 0 / 450 % (many : Int)).toNat ((ns.getD 47 0 / 450 % (many : Int) + 1 + ns.getD 47 0 / 2250 % ((many : Int) - 1)) % (many : Int)).toNat] else []
theorem emodN (a : Int) {m : Int} (h : 0 < m) : (((a % m).toNat : Nat) : Int) = a % m := Int.toNat_of_nonneg (Int.emod_nonneg _ (by omega))
theorem claims_eq (ns : List Int) (N : Network) {inp : Nat} (hin : N.inputs = (inp : Int)) (h0 : 1 ≤ inp) (h1 : 1 ≤ N.neurons.length) : l_claims ns N = some ((claimsF ns inp N.neurons.length).map enc) := by
  have h47 : l_cell ns 47 = some (ns.getD 47 0) := cell_eq ns 47
  unfold l_claims
  simp only [aS2, oS1, oS2, bS, h47, hin, modG_pos (show (0 : Int) < (N.neurons.length : Int) by omega), modG_pos (show (0 : Int) < (inp : Int) by omega), divG_pos (show (0 : Int) < 5 by decide) (by decide), divG_pos (show (0 : Int) < 15 by decide) (by decide), divG_pos (show (0 : Int) < 75 by decide) (by decide), modG_pos (show (0 : Int) < 6 by decide), divG_pos (show (0 : Int) < 450 by decide) (by decide), divG_pos (show (0 : Int) < 2250 by decide) (by decide)]
  unfold claimsF
  have e1 := emodN (ns.getD 47 0) (m := (N.neurons.length : Int)) (by omega)
  have e2 := emodN (ns.getD 47 0 / 5) (m := (inp : Int)) (by omega)
  have e3 := emodN (ns.getD 47 0 / 15) (m := (N.neurons.length : Int)) (by omega)
  have e4 : (((1 + ns.getD 47 0 / 75 % 6).toNat : Nat) : Int) = 1 + ns.getD 47 0 / 75 % 6 := by omega
  by_cases c : 1 < N.neurons.length
  · have e5 := emodN (ns.getD 47 0 / 450) (m := (N.neurons.length : Int)) (by omega)
    have e6 := emodN (ns.getD 47 0 / 450 % (N.neurons.length : Int) + 1 + ns.getD 47 0 / 2250 % ((N.neurons.length : Int) - 1)) (m := (N.neurons.length : Int)) (by omega)
    rw [decide_eq_true (show (1 : Int) < (N.neurons.length : Int) by omega), if_pos rfl, if_pos c, modG_pos (show (0 : Int) < (N.neurons.length : Int) - 1 by omega)]
    simp only [oS2, bS, aS2, oS1, modG_pos (show (0 : Int) < (N.neurons.length : Int) by omega)]
    rw [appO_some (by simp)]
    simp only [bS, List.map_append, List.map_cons, List.map_nil, enc, e1, e2, e3, e4, e5, e6]
  · rw [decide_eq_false (show ¬ (1 : Int) < (N.neurons.length : Int) by omega), if_neg (by decide), if_neg c]
    simp only [bS, List.map_append, List.map_cons, List.map_nil, enc, e1, e2, e3, e4, List.append_nil]
theorem claims_ok (ns : List Int) (inp many : Nat) : ∀ c ∈ claimsF ns inp many, ClOk c := fun c hc => by
  unfold claimsF at hc
  rcases List.mem_append.mp hc with hc | hc
  · rcases List.mem_cons.mp hc with e | hc
    · rw [e]; trivial
    · rw [List.mem_singleton.mp hc]
      show 1 ≤ (1 + ns.getD 47 0 / 75 % 6).toNat
      omega
  · by_cases c1 : 1 < many
    · rw [if_pos c1] at hc
      rw [List.mem_singleton.mp hc]
      trivial
    · rw [if_neg c1] at hc; cases hc
theorem claims_len (ns : List Int) (inp many : Nat) : (claimsF ns inp many).length ≤ 3 := by
  unfold claimsF
  split <;> simp
/-- one tick's claims -/
theorem law_b2 {cs : List Cl} (hcs : ∀ c ∈ cs, ClOk c) (hcl : cs.length ≤ 3) {stim spikes : List (List Int)} (hl : stim.length = spikes.length) (hb : stim.length ≤ 1000) {t : Nat} (ht : t < stim.length) :
    forO (fun (ls2 : (List Int) × (List Bool)) lx2 => law_m_b2 stim spikes (cs.map enc) (t : Int) ls2.1 ls2.2 lx2) (tab cs.length fun k => wat (cAt cs k) (fun t => stim.getD t []) (fun t => spikes.getD t []) t, tab cs.length fun k => brkTo (cAt cs k) (fun t => stim.getD t []) (fun t => spikes.getD t []) t) (nts (List.range cs.length)) =
      some (.go (tab cs.length fun k => wat (cAt cs k) (fun t => stim.getD t []) (fun t => spikes.getD t []) (t + 1), tab cs.length fun k => brkTo (cAt cs k) (fun t => stim.getD t []) (fun t => spikes.getD t []) (t + 1))) := by
  have hgs : atI spikes (t : Int) = some (spikes.getD t []) := by
    rw [atI_nat', List.getD_eq_getElem?_getD, List.getElem?_eq_getElem (by omega)]; rfl
  have hgt : atI stim (t : Int) = some (stim.getD t []) := by
    rw [atI_nat', List.getD_eq_getElem?_getD, List.getElem?_eq_getElem (by omega)]; rfl
  generalize hst : (fun t => stim.getD t []) = st
  generalize hsp : (fun t => spikes.getD t []) = sp
  have est : stim.getD t [] = st t := by rw [← hst]
  have esp : spikes.getD t [] = sp t := by rw [← hsp]
  obtain ⟨s', h1, h2⟩ := forO_range (f := fun (ls2 : (List Int) × (List Bool)) lx2 => law_m_b2 stim spikes (cs.map enc) (t : Int) ls2.1 ls2.2 lx2)
    (fun j z => z = (tab cs.length fun k => if k < j then wat (cAt cs k) st sp (t + 1) else wat (cAt cs k) st sp t, tab cs.length fun k => if k < j then brkTo (cAt cs k) st sp (t + 1) else brkTo (cAt cs k) st sp t)) (n := cs.length)
    (s := (tab cs.length fun k => wat (cAt cs k) st sp t, tab cs.length fun k => brkTo (cAt cs k) st sp t)) (fun k z hk hz => by
      subst hz
      refine ⟨_, ?_, rfl⟩
      obtain ⟨hc1, hc2⟩ := cAt_at hk
      have hok := hcs _ hc2
      have hbr := breaks_eq hok hl hb ht
      rw [hst, hsp] at hbr
      have hw : (if k < k then wat (cAt cs k) st sp (t + 1) else wat (cAt cs k) st sp t) = wat (cAt cs k) st sp t := if_neg (Nat.lt_irrefl _)
      have hbk : (if k < k then brkTo (cAt cs k) st sp (t + 1) else brkTo (cAt cs k) st sp t) = brkTo (cAt cs k) st sp t := if_neg (Nat.lt_irrefl _)
      have hup : ∀ {α : Type} (f g : Nat → α), upF (fun n => if n < k then f n else g n) k (f k) = fun n => if n < k + 1 then f n else g n := fun f g => upF_to f g k
      unfold law_m_b2
      simp only [oS1, oS2, aS2, bS, atI_nat', hc1] at hgs hgt ⊢
      simp only [hgs, hgt, est, esp, hbr, bS, aS2, tab_at hk, hw, hbk, broken_eq, oS1, oS2]
      have htold : (andO (some (!brkTo (cAt cs k) st sp t)) (orO (some (!true)) (some (!decide (isB (cAt cs k) (wat (cAt cs k) st sp t) (sp t) = brk (cAt cs k) st sp t))))) = some false := by
        rw [Q.orO_some, Q.andO_some]
        cases q : brkTo (cAt cs k) st sp t with
        | true => rfl
        | false =>
          have hb0 : ∀ u, u < t → brk (cAt cs k) st sp u = false := fun u hu => by
            have := List.any_eq_false.mp q u (List.mem_range.mpr hu)
            simpa using this
          rw [told_eq hok hb0]
          simp
      rw [htold]
      simp only [bS, Bool.false_eq_true, if_false, Q.orO_some, setO_tab hk, nextW_eq, tab_at hk, upF_same]
      have eb : (brkTo (cAt cs k) st sp t || brk (cAt cs k) st sp t) = brkTo (cAt cs k) st sp (t + 1) := (brkTo_succ _ _ _ _).symm
      have ew : nextW (cAt cs k) (wat (cAt cs k) st sp t) (st t) (sp t) = wat (cAt cs k) st sp (t + 1) := rfl
      rw [eb, ew, hup (fun n => brkTo (cAt cs n) st sp (t + 1)) (fun n => brkTo (cAt cs n) st sp t), hup (fun n => wat (cAt cs n) st sp (t + 1)) (fun n => wat (cAt cs n) st sp t)]
      have h0 : (andO (o2 (fun x y => some (!decide (x = y))) ((atI (enc (cAt cs k)) 0).bind SI.str) (some ("answer" : Str))) (o2 (fun x y => some (!decide (x = y))) (some (wat (cAt cs k) st sp (t + 1))) (some (0 : Int)))) = some false := by
        cases hcc : cAt cs k with
        | nv n =>
          rw [wat_zero (c := .nv n) (fun _ _ _ e => by cases e)]
          simp only [enc, at0, bS, sS, oS2, Q.andO_some, decide_true, Bool.not_true, Bool.and_false]
        | ap a b =>
          rw [wat_zero (c := .ap a b) (fun _ _ _ e => by cases e)]
          simp only [enc, at0, bS, sS, oS2, Q.andO_some, decide_true, Bool.not_true, Bool.and_false]
        | an i n d => simp only [enc, at0, bS, sS, oS2, Q.andO_some, decide_true, Bool.not_true, Bool.false_and]
      rw [h0]
      simp only [bS, Bool.false_eq_true, if_false]) (by simp)
  rw [h1, h2]
  congr 3
  · exact tab_congr fun k hk => if_pos hk
  · exact tab_congr fun k hk => if_pos hk
theorem law_true (ns : List Int) (h63 : ns.length ≤ 63) : law_m ns = some true := by
  have hi := inp_b ns
  have hm := many_b ns
  have hln := netF_len ns false
  have hrun1 := run_net ns false
  have W := netF_wf ns false
  have hdel := netF_del ns false
  have hst := stimuli_eq ns (inpN ns) (by omega)
  have hstl := stiF_len ns (inpN ns)
  have hnet : l_network ns false = some (netF ns false) := network_eq ns false
  have hrule : (netF ns false).rule = none := by
    show (if (false = true ∧ ns.getD 0 0 / 15 % 4 > 0) then some (ruleF (ns.getD 1 0)) else none) = none
    rw [if_neg fun h => by cases h.1]
  have hin : (netF ns false).inputs = (inpN ns : Int) := rfl
  generalize hN : netF ns false = N at *
  rw [(runS_eq N (stiF ns (inpN ns)) _).2, List.map_map] at hrun1
  have hrow : ∀ t, ((stiF ns (inpN ns)).getD t []).length ≤ 1000 := fun t => by
    rw [List.getD_eq_getElem?_getD]
    by_cases c : t < (stiF ns (inpN ns)).length
    · rw [List.getElem?_eq_getElem c]
      have := (stiF_mem (List.getElem_mem c)).1
      show ((stiF ns (inpN ns))[t]).length ≤ 1000
      omega
    · rw [List.getElem?_eq_none (by omega)]
      exact Nat.zero_le _
  have hz : compO (fun _ => some true) (fun _ => some (0 : Int)) N.neurons = some (tab N.neurons.length fun _ => 0) := compO_const _
  have h15 : ∀ zs : List Int, compO (fun _ => some true) (fun _ => some zs) (nts (List.range 15)) = some (tab 15 fun _ => zs) := fun zs => compO_nts (g := fun _ => zs) fun _ _ => rfl
  have hr15 : rngG 15 = some (nts (List.range 15)) := rngG_nat (n := 15) (by omega)
  have hcl := claims_eq ns N (inp := inpN ns) hin hi.1 (by omega)
  have hok := claims_ok ns (inpN ns) N.neurons.length
  have hcn := claims_len ns (inpN ns) N.neurons.length
  generalize hcs : claimsF ns (inpN ns) N.neurons.length = cs at *
  generalize hsp : (List.range (stiF ns (inpN ns)).length).map (nts ∘ spk N (stiF ns (inpN ns))) = spikes at *
  have hspl : (stiF ns (inpN ns)).length = spikes.length := by rw [← hsp]; simp
  have hspt : ∀ t, t < (stiF ns (inpN ns)).length → spikes.getD t [] = nts (spk N (stiF ns (inpN ns)) t) := fun t ht => by
    rw [← hsp, List.getD_eq_getElem?_getD, List.getElem?_map, List.getElem?_range ht]
    rfl
  have hc0 : ∀ x : Int, compO (fun _ => some true) (fun _ => some x) (cs.map enc) = some (tab cs.length fun _ => x) := fun x => by
    rw [compO_const, List.length_map]
  have hc1 : ∀ x : Bool, compO (fun _ => some true) (fun _ => some x) (cs.map enc) = some (tab cs.length fun _ => x) := fun x => by
    rw [compO_const, List.length_map]
  obtain ⟨s', h1, h2⟩ := forO_range (R := Bool) (f := fun (ls1 : ((List Int) × (List Int) × (List (List Int))) × (List Int) × (List Bool)) lx1 => law_m_b1 N (stiF ns (inpN ns)) spikes (cs.map enc) ls1.1 ls1.2.1 ls1.2.2 lx1)
    (fun t z => z = (stD N (sRun N (stiF ns (inpN ns)) t), tab cs.length fun k => wat (cAt cs k) (fun t => (stiF ns (inpN ns)).getD t []) (fun t => spikes.getD t []) t, tab cs.length fun k => brkTo (cAt cs k) (fun t => (stiF ns (inpN ns)).getD t []) (fun t => spikes.getD t []) t))
    (n := (stiF ns (inpN ns)).length) (s := (stD N zeroS, tab cs.length fun _ => 0, tab cs.length fun _ => false)) (fun t z ht hz => by
      subst hz
      refine ⟨_, ?_, rfl⟩
      have hgt : (stiF ns (inpN ns))[t]? = some ((stiF ns (inpN ns)).getD t []) := by
        rw [List.getD_eq_getElem?_getD, List.getElem?_eq_getElem ht]; rfl
      have hgs : spikes[t]? = some (nts (spk N (stiF ns (inpN ns)) t)) := by
        rw [← hspt t ht, List.getD_eq_getElem?_getD, List.getElem?_eq_getElem (by omega)]; rfl
      have hadv := advance_eq W hdel (sRun N (stiF ns (inpN ns)) t) (hrow t)
      rw [adv_fired W hrule (adv_ok W hrule hdel t)] at hadv
      have e : adS N (sRun N (stiF ns (inpN ns)) t) ((stiF ns (inpN ns)).getD t []) = sRun N (stiF ns (inpN ns)) (t + 1) := rfl
      rw [e] at hadv
      unfold law_m_b1
      simp only [oS1, oS2, aS2, bS, atI_nat', hgt, hgs, hadv, decide_true, Bool.not_true, Q.orO_some, Bool.or_self, Bool.false_eq_true, if_false, List.length_map, rngG_nat (show cs.length ≤ 16777216 by omega)]
      rw [law_b2 hok hcn hspl (by omega) ht]
      simp only [bS, rsB]) (by
      show _ = (stD N zeroS, tab cs.length fun k => (0 : Int), tab cs.length fun k => false)
      rfl)
  have hso := stimulus_of_eq (N := N) (i := inpN ns) hin (by omega)
  have h48 : l_cell ns 48 = some (ns.getD 48 0) := cell_eq ns 48
  have hlast : ∀ num : Int, compO (fun j => (o2 (fun x y => some (decide (x = y))) (o2 modG (o2 divG (some num) (o2 shlG (some (1 : Int)) (some j))) (some (2 : Int))) (some (1 : Int)))) (fun j => (some j)) (nts (List.range (inpN ns))) = some (nts ((List.range (inpN ns)).filter fun j => decide (num / 2 ^ j % 2 = 1))) := fun num => compO_nts' fun j hj => by
    have hj' := List.mem_range.mp hj
    simp only [oS2, shlG_one (show (0 : Int) ≤ (j : Int) by omega) (by omega), Int.toNat_natCast, divG_pos (pow_p j) (pow_b (show j ≤ 29 by omega)), modG_pos (show (0 : Int) < 2 by decide)]
  have hini : p_initial_state N = some (stD N zeroS) := initial_eq W
  have hz0 : stD N zeroS = ((tab N.neurons.length fun _ => 0), (tab N.neurons.length fun _ => 0), tab 15 fun _ => (tab N.neurons.length fun _ => 0)) := rfl
  unfold law_m
  simp only [aS2, bS, oS1, oS2, hnet, hin, hst, hrun1, hz, hini, hr15, h15, ← hz0, decide_true, Bool.not_true, Bool.false_eq_true, if_false, hcl, hc0, hc1]
  rw [rngG_nat (show (stiF ns (inpN ns)).length ≤ 16777216 by omega), bS, h1]
  simp only [bS, rsB, h48, shlG_one (show (0 : Int) ≤ (inpN ns : Int) by omega) (show (inpN ns : Int) ≤ 1000000 by omega), oS2, modG_pos (pow_p _), hso, rngG_nat (show inpN ns ≤ 16777216 by omega)]
  have hl2 := hlast (ns.getD 48 0 % 2 ^ (inpN ns : Int).toNat)
  simp only [oS2] at hl2
  rw [hl2]
  simp only [oS2, decide_true]
end M
namespace W
open PySem hiding Run
open PySem.Spec PyProof.Rows L2 G M
def top (i : Nat) : Stmt := PySem.Challenge.pw_spikehold_k18_states_of_a_network.main.body.getD i (.Pass ⟨0, 0, 0, 0⟩)
abbrev s_l_cell : Stmt := top 22
abbrev s_Network_init : Stmt := inClass (top 14) 0
abbrev s_Neuron_init : Stmt := inClass (top 2) 0
abbrev s_l_neuron : Stmt := top 23
abbrev s_Rule_init : Stmt := inClass (top 13) 0
abbrev s_Synapse_init : Stmt := inClass (top 12) 0
abbrev s_l_synapse : Stmt := top 24
abbrev s_l_network : Stmt := top 25
abbrev s_l_stimuli : Stmt := top 26
abbrev s_p_initial_state : Stmt := top 6
abbrev s_l_claims : Stmt := top 28
abbrev s_Cells_init : Stmt := inClass (top 19) 0
abbrev s_Run_init : Stmt := inClass (top 15) 0
abbrev s_p_recent : Stmt := top 18
abbrev s_p_depressed : Stmt := top 16
abbrev s_Cells_arrive : Stmt := inClass (top 19) 1
abbrev s_p_step : Stmt := top 3
abbrev s_Cells_fire : Stmt := inClass (top 19) 2
abbrev s_p_potentiated : Stmt := top 17
abbrev s_Cells_learn : Stmt := inClass (top 19) 3
abbrev s_Cells_tick : Stmt := inClass (top 19) 6
abbrev s_p_run : Stmt := top 20
abbrev s_p_advance : Stmt := top 7
abbrev s_p_stimulus_of : Stmt := top 8
abbrev s_l_breaks : Stmt := top 27
abbrev s_p_is_broken : Stmt := top 10
abbrev s_p_next_watch : Stmt := top 9
abbrev s_law_m : Stmt := top 29
def d_l_cell : He.DefD := ⟨("_law_cell", none), "_law_cell", "_law_cell", defArgs s_l_cell, defBody s_l_cell, defScope s_l_cell, [], []⟩
def d_Network_init : He.DefD := ⟨("Network", some "__init__"), "__init__", "Network.__init__", defArgs s_Network_init, defBody s_Network_init, defScope s_Network_init, [.non], []⟩
def d_Neuron_init : He.DefD := ⟨("Neuron", some "__init__"), "__init__", "Neuron.__init__", defArgs s_Neuron_init, defBody s_Neuron_init, defScope s_Neuron_init, [], [("leak", .int 0), ("refractory", .int 0), ("floor", .int 0), ("subtract", .bl false)]⟩
def d_l_neuron : He.DefD := ⟨("_law_neuron", none), "_law_neuron", "_law_neuron", defArgs s_l_neuron, defBody s_l_neuron, defScope s_l_neuron, [], []⟩
def d_Rule_init : He.DefD := ⟨("Rule", some "__init__"), "__init__", "Rule.__init__", defArgs s_Rule_init, defBody s_Rule_init, defScope s_Rule_init, [], []⟩
def d_Synapse_init : He.DefD := ⟨("Synapse", some "__init__"), "__init__", "Synapse.__init__", defArgs s_Synapse_init, defBody s_Synapse_init, defScope s_Synapse_init, [.bl false], []⟩
def d_l_synapse : He.DefD := ⟨("_law_synapse", none), "_law_synapse", "_law_synapse", defArgs s_l_synapse, defBody s_l_synapse, defScope s_l_synapse, [], []⟩
def d_l_network : He.DefD := ⟨("_law_network", none), "_law_network", "_law_network", defArgs s_l_network, defBody s_l_network, defScope s_l_network, [], []⟩
def d_l_stimuli : He.DefD := ⟨("_law_stimuli", none), "_law_stimuli", "_law_stimuli", defArgs s_l_stimuli, defBody s_l_stimuli, defScope s_l_stimuli, [], []⟩
def d_p_initial_state : He.DefD := ⟨("initial_state", none), "initial_state", "initial_state", defArgs s_p_initial_state, defBody s_p_initial_state, defScope s_p_initial_state, [], []⟩
def d_l_claims : He.DefD := ⟨("_law_claims", none), "_law_claims", "_law_claims", defArgs s_l_claims, defBody s_l_claims, defScope s_l_claims, [], []⟩
def d_Cells_init : He.DefD := ⟨("Cells", some "__init__"), "__init__", "Cells.__init__", defArgs s_Cells_init, defBody s_Cells_init, defScope s_Cells_init, [], []⟩
def d_Run_init : He.DefD := ⟨("Run", some "__init__"), "__init__", "Run.__init__", defArgs s_Run_init, defBody s_Run_init, defScope s_Run_init, [], []⟩
def d_p_recent : He.DefD := ⟨("recent", none), "recent", "recent", defArgs s_p_recent, defBody s_p_recent, defScope s_p_recent, [], []⟩
def d_p_depressed : He.DefD := ⟨("depressed", none), "depressed", "depressed", defArgs s_p_depressed, defBody s_p_depressed, defScope s_p_depressed, [], []⟩
def d_Cells_arrive : He.DefD := ⟨("Cells", some "arrive"), "arrive", "Cells.arrive", defArgs s_Cells_arrive, defBody s_Cells_arrive, defScope s_Cells_arrive, [], []⟩
def d_p_step : He.DefD := ⟨("step", none), "step", "step", defArgs s_p_step, defBody s_p_step, defScope s_p_step, [], []⟩
def d_Cells_fire : He.DefD := ⟨("Cells", some "fire"), "fire", "Cells.fire", defArgs s_Cells_fire, defBody s_Cells_fire, defScope s_Cells_fire, [], []⟩
def d_p_potentiated : He.DefD := ⟨("potentiated", none), "potentiated", "potentiated", defArgs s_p_potentiated, defBody s_p_potentiated, defScope s_p_potentiated, [], []⟩
def d_Cells_learn : He.DefD := ⟨("Cells", some "learn"), "learn", "Cells.learn", defArgs s_Cells_learn, defBody s_Cells_learn, defScope s_Cells_learn, [], []⟩
def d_Cells_tick : He.DefD := ⟨("Cells", some "tick"), "tick", "Cells.tick", defArgs s_Cells_tick, defBody s_Cells_tick, defScope s_Cells_tick, [], []⟩
def d_p_run : He.DefD := ⟨("run", none), "run", "run", defArgs s_p_run, defBody s_p_run, defScope s_p_run, [], []⟩
def d_p_advance : He.DefD := ⟨("advance", none), "advance", "advance", defArgs s_p_advance, defBody s_p_advance, defScope s_p_advance, [], []⟩
def d_p_stimulus_of : He.DefD := ⟨("stimulus_of", none), "stimulus_of", "stimulus_of", defArgs s_p_stimulus_of, defBody s_p_stimulus_of, defScope s_p_stimulus_of, [], []⟩
def d_l_breaks : He.DefD := ⟨("_law_breaks", none), "_law_breaks", "_law_breaks", defArgs s_l_breaks, defBody s_l_breaks, defScope s_l_breaks, [], []⟩
def d_p_is_broken : He.DefD := ⟨("is_broken", none), "is_broken", "is_broken", defArgs s_p_is_broken, defBody s_p_is_broken, defScope s_p_is_broken, [], []⟩
def d_p_next_watch : He.DefD := ⟨("next_watch", none), "next_watch", "next_watch", defArgs s_p_next_watch, defBody s_p_next_watch, defScope s_p_next_watch, [], []⟩
def d_law_m : He.DefD := ⟨("law", none), "law", "law", defArgs s_law_m, defBody s_law_m, defScope s_law_m, [], []⟩
def fn : List He.DefD := [d_l_cell, d_Network_init, d_Neuron_init, d_l_neuron, d_Rule_init, d_Synapse_init, d_l_synapse, d_l_network, d_l_stimuli, d_p_initial_state, d_l_claims, d_Cells_init, d_Run_init, d_p_recent, d_p_depressed, d_Cells_arrive, d_p_step, d_Cells_fire, d_p_potentiated, d_Cells_learn, d_Cells_tick, d_p_run, d_p_advance, d_p_stimulus_of, d_l_breaks, d_p_is_broken, d_p_next_watch, d_law_m]
def fa : List He.Fa := [.free "len", .free "int", .free "list", .cls "Network", .noat "Network" "rule", .noat "Network" "synapses", .noat "Network" "neurons", .noat "Network" "inputs", .cls "Neuron", .noat "Neuron" "subtract", .noat "Neuron" "floor", .noat "Neuron" "refractory", .noat "Neuron" "leak", .noat "Neuron" "threshold", .cls "Rule", .noat "Rule" "most", .noat "Rule" "least", .noat "Rule" "window", .noat "Rule" "loss", .noat "Rule" "gain", .cls "Synapse", .noat "Synapse" "plastic", .noat "Synapse" "delay", .noat "Synapse" "weight", .noat "Synapse" "target", .noat "Synapse" "source", .free "range", .free "min", .free "tuple", .int "DELAYS" 15, .cls "Cells", .noat "Cells" "last_arrivals", .noat "Cells" "weights", .noat "Cells" "last_spikes", .noat "Cells" "rests", .noat "Cells" "potentials", .noat "Cells" "rule", .noat "Cells" "synapses", .noat "Cells" "neurons", .cls "Run", .noat "Run" "weights", .noat "Run" "spikes", .free "max", .free "isinstance", .free "bool", .glo "_law_cell", .mkr "Network", .glo "Network", .mkr "Neuron", .glo "Neuron", .glo "_law_neuron", .mkr "Rule", .glo "Rule", .mkr "Synapse", .glo "Synapse", .glo "_law_synapse", .glo "_law_network", .glo "_law_stimuli", .glo "initial_state", .glo "_law_claims", .mkr "Cells", .glo "Cells", .mkr "Run", .glo "Run", .glo "recent", .glo "depressed", .meth "Cells" "arrive", .glo "step", .meth "Cells" "fire", .glo "potentiated", .meth "Cells" "learn", .meth "Cells" "tick", .glo "run", .glo "advance", .glo "stimulus_of", .glo "_law_breaks", .glo "is_broken", .glo "next_watch", .glo "law"]
def exs : List Str := []
structure Txt (K : PySem.W.Frag) (mg : Str → Option Value) : Prop where
  says : He.SaysD fa fn K
  at_ : ∃ h : Heap, K.In h ∧ h.Ns mainGlobals mg
  ex : exB exs K = true
section
variable {K : PySem.W.Frag} {mg : Str → Option Value} (T : Txt K mg)
include T
theorem Txt.glo {x : Str} (i : Nat) (h : fa[i]? = some (.glo x)) : mg x = some (.ref (He.ga K x)) := let ⟨_, X, G⟩ := T.at_; He.glo_ok X G (T.says.fact i h)
theorem Txt.free {x : Str} (i : Nat) (h : fa[i]? = some (.free x)) : mg x = none := let ⟨_, X, G⟩ := T.at_; He.free_ok X G (T.says.fact i h)
theorem Txt.int_ {x : Str} {n : Int} (i : Nat) (h : fa[i]? = some (.int x n)) : ∃ t, mg x = some (.int n t) := let ⟨_, X, G⟩ := T.at_; He.int_ok X G (T.says.fact i h)
theorem Txt.str_ {x z : Str} (i : Nat) (h : fa[i]? = some (.str x z)) : ∃ t, mg x = some (.str z t) := let ⟨_, X, G⟩ := T.at_; He.str_ok X G (T.says.fact i h)
theorem Txt.cls_ {x : Str} (i : Nat) (h : fa[i]? = some (.cls x)) : Cls K (He.ga K x) := He.cls_ok (T.says.fact i h)
theorem Txt.noat {x f : Str} (i : Nat) (h : fa[i]? = some (.noat x f)) : NoAttr K (He.ga K x) f := He.noat_ok (T.says.fact i h)
theorem Txt.meth {x m : Str} (i : Nat) (h : fa[i]? = some (.meth x m)) : Meth K (He.ga K x) m (He.ma K (He.ga K x) m) := He.meth_ok (T.says.fact i h)
theorem Txt.mkr {x : Str} (i : Nat) (h : fa[i]? = some (.mkr x)) : Mk K (He.ga K x) (He.ma K (He.ga K x) "__init__") := He.mkr_ok (T.says.fact i h)
theorem Txt.ins_ {x : Str} (i : Nat) (h : exs[i]? = some x) (c : Cls K (He.ga K x)) : InsF K (He.ga K x) := insB_ok c (List.all_eq_true.mp T.ex x (List.mem_of_getElem? h))
theorem Txt.def_ (i : Nat) {d : He.DefD} (h : fn[i]? = some d) : ∃ fd, FunD K d.name d.qual d.params d.body d.scope (d.dvs K) (d.kws K) (He.fAd K d.at_) fd := T.says.def_ i h
end
def s_Neuron (K : PySem.W.Frag) (x : Neuron) : List Slot := [.val (tInt.P x.threshold), .val (tInt.P x.leak), .val (tInt.P x.refractory), .val (tInt.P x.floor), .val (tBool.P x.subtract)]
abbrev m_Neuron (K : PySem.W.Frag) (x : Neuron) : MO := mObj (He.ga K "Neuron") n_Neuron (s_Neuron K x)
abbrev t_Neuron (K : PySem.W.Frag) : Ty Neuron := tObj (He.ga K "Neuron") n_Neuron (s_Neuron K)
def s_Synapse (K : PySem.W.Frag) (x : Synapse) : List Slot := [.val (tInt.P x.source), .val (tInt.P x.target), .val (tInt.P x.weight), .val (tInt.P x.delay), .val (tBool.P x.plastic)]
abbrev m_Synapse (K : PySem.W.Frag) (x : Synapse) : MO := mObj (He.ga K "Synapse") n_Synapse (s_Synapse K x)
abbrev t_Synapse (K : PySem.W.Frag) : Ty Synapse := tObj (He.ga K "Synapse") n_Synapse (s_Synapse K)
def s_Rule (K : PySem.W.Frag) (x : Rule) : List Slot := [.val (tInt.P x.gain), .val (tInt.P x.loss), .val (tInt.P x.window), .val (tInt.P x.least), .val (tInt.P x.most)]
abbrev m_Rule (K : PySem.W.Frag) (x : Rule) : MO := mObj (He.ga K "Rule") n_Rule (s_Rule K x)
abbrev t_Rule (K : PySem.W.Frag) : Ty Rule := tObj (He.ga K "Rule") n_Rule (s_Rule K)
def s_Network (K : PySem.W.Frag) (x : Network) : List Slot := [.val (tInt.P x.inputs), .val ((tList K (t_Neuron K)).P x.neurons), .val ((tList K (t_Synapse K)).P x.synapses), .val ((tOpt (t_Rule K)).P x.rule)]
abbrev m_Network (K : PySem.W.Frag) (x : Network) : MO := mObj (He.ga K "Network") n_Network (s_Network K x)
abbrev t_Network (K : PySem.W.Frag) : Ty Network := tObj (He.ga K "Network") n_Network (s_Network K)
def s_Run (K : PySem.W.Frag) (x : Run) : List Slot := [.val ((tList K (tList K tInt)).P x.spikes), .val ((tList K tInt).P x.weights)]
abbrev m_Run (K : PySem.W.Frag) (x : Run) : MO := mObj (He.ga K "Run") n_Run (s_Run K x)
abbrev t_Run (K : PySem.W.Frag) : Ty Run := tObj (He.ga K "Run") n_Run (s_Run K)
def s_Cells (K : PySem.W.Frag) (x : Cells) : List Slot := [.val ((tList K (t_Neuron K)).P x.neurons), .val ((tList K (t_Synapse K)).P x.synapses), .val ((tOpt (t_Rule K)).P x.rule), .own (mList K tInt x.potentials), .own (mList K tInt x.rests), .own (mList K (tOpt tInt) x.last_spikes), .own (mList K tInt x.weights), .own (mList K (tOpt tInt) x.last_arrivals)]
abbrev m_Cells (K : PySem.W.Frag) (x : Cells) : MO := mObj (He.ga K "Cells") n_Cells (s_Cells K x)
abbrev t_Cells (K : PySem.W.Frag) : Ty Cells := tObj (He.ga K "Cells") n_Cells (fun x => fz (s_Cells K x))
theorem f_Neuron_threshold {K : PySem.W.Frag} {mg : Str → Option Value} (T : Txt K mg) : FldOk K (t_Neuron K) "threshold" tInt Neuron.threshold := fldOk (j := 0) (T.cls_ 8 rfl) (T.noat 13 rfl) (by decide +kernel) rfl (fun _ => rfl)
theorem f_Neuron_leak {K : PySem.W.Frag} {mg : Str → Option Value} (T : Txt K mg) : FldOk K (t_Neuron K) "leak" tInt Neuron.leak := fldOk (j := 1) (T.cls_ 8 rfl) (T.noat 12 rfl) (by decide +kernel) rfl (fun _ => rfl)
theorem f_Neuron_refractory {K : PySem.W.Frag} {mg : Str → Option Value} (T : Txt K mg) : FldOk K (t_Neuron K) "refractory" tInt Neuron.refractory := fldOk (j := 2) (T.cls_ 8 rfl) (T.noat 11 rfl) (by decide +kernel) rfl (fun _ => rfl)
theorem f_Neuron_floor {K : PySem.W.Frag} {mg : Str → Option Value} (T : Txt K mg) : FldOk K (t_Neuron K) "floor" tInt Neuron.floor := fldOk (j := 3) (T.cls_ 8 rfl) (T.noat 10 rfl) (by decide +kernel) rfl (fun _ => rfl)
theorem f_Neuron_subtract {K : PySem.W.Frag} {mg : Str → Option Value} (T : Txt K mg) : FldOk K (t_Neuron K) "subtract" tBool Neuron.subtract := fldOk (j := 4) (T.cls_ 8 rfl) (T.noat 9 rfl) (by decide +kernel) rfl (fun _ => rfl)
theorem f_Synapse_source {K : PySem.W.Frag} {mg : Str → Option Value} (T : Txt K mg) : FldOk K (t_Synapse K) "source" tInt Synapse.source := fldOk (j := 0) (T.cls_ 20 rfl) (T.noat 25 rfl) (by decide +kernel) rfl (fun _ => rfl)
theorem f_Synapse_target {K : PySem.W.Frag} {mg : Str → Option Value} (T : Txt K mg) : FldOk K (t_Synapse K) "target" tInt Synapse.target := fldOk (j := 1) (T.cls_ 20 rfl) (T.noat 24 rfl) (by decide +kernel) rfl (fun _ => rfl)
theorem f_Synapse_weight {K : PySem.W.Frag} {mg : Str → Option Value} (T : Txt K mg) : FldOk K (t_Synapse K) "weight" tInt Synapse.weight := fldOk (j := 2) (T.cls_ 20 rfl) (T.noat 23 rfl) (by decide +kernel) rfl (fun _ => rfl)
theorem f_Synapse_delay {K : PySem.W.Frag} {mg : Str → Option Value} (T : Txt K mg) : FldOk K (t_Synapse K) "delay" tInt Synapse.delay := fldOk (j := 3) (T.cls_ 20 rfl) (T.noat 22 rfl) (by decide +kernel) rfl (fun _ => rfl)
theorem f_Synapse_plastic {K : PySem.W.Frag} {mg : Str → Option Value} (T : Txt K mg) : FldOk K (t_Synapse K) "plastic" tBool Synapse.plastic := fldOk (j := 4) (T.cls_ 20 rfl) (T.noat 21 rfl) (by decide +kernel) rfl (fun _ => rfl)
theorem f_Rule_gain {K : PySem.W.Frag} {mg : Str → Option Value} (T : Txt K mg) : FldOk K (t_Rule K) "gain" tInt Rule.gain := fldOk (j := 0) (T.cls_ 14 rfl) (T.noat 19 rfl) (by decide +kernel) rfl (fun _ => rfl)
theorem f_Rule_loss {K : PySem.W.Frag} {mg : Str → Option Value} (T : Txt K mg) : FldOk K (t_Rule K) "loss" tInt Rule.loss := fldOk (j := 1) (T.cls_ 14 rfl) (T.noat 18 rfl) (by decide +kernel) rfl (fun _ => rfl)
theorem f_Rule_window {K : PySem.W.Frag} {mg : Str → Option Value} (T : Txt K mg) : FldOk K (t_Rule K) "window" tInt Rule.window := fldOk (j := 2) (T.cls_ 14 rfl) (T.noat 17 rfl) (by decide +kernel) rfl (fun _ => rfl)
theorem f_Rule_least {K : PySem.W.Frag} {mg : Str → Option Value} (T : Txt K mg) : FldOk K (t_Rule K) "least" tInt Rule.least := fldOk (j := 3) (T.cls_ 14 rfl) (T.noat 16 rfl) (by decide +kernel) rfl (fun _ => rfl)
theorem f_Rule_most {K : PySem.W.Frag} {mg : Str → Option Value} (T : Txt K mg) : FldOk K (t_Rule K) "most" tInt Rule.most := fldOk (j := 4) (T.cls_ 14 rfl) (T.noat 15 rfl) (by decide +kernel) rfl (fun _ => rfl)
theorem f_Network_inputs {K : PySem.W.Frag} {mg : Str → Option Value} (T : Txt K mg) : FldOk K (t_Network K) "inputs" tInt Network.inputs := fldOk (j := 0) (T.cls_ 3 rfl) (T.noat 7 rfl) (by decide +kernel) rfl (fun _ => rfl)
theorem f_Network_neurons {K : PySem.W.Frag} {mg : Str → Option Value} (T : Txt K mg) : FldOk K (t_Network K) "neurons" (tList K (t_Neuron K)) Network.neurons := fldOk (j := 1) (T.cls_ 3 rfl) (T.noat 6 rfl) (by decide +kernel) rfl (fun _ => rfl)
theorem f_Network_synapses {K : PySem.W.Frag} {mg : Str → Option Value} (T : Txt K mg) : FldOk K (t_Network K) "synapses" (tList K (t_Synapse K)) Network.synapses := fldOk (j := 2) (T.cls_ 3 rfl) (T.noat 5 rfl) (by decide +kernel) rfl (fun _ => rfl)
theorem f_Network_rule {K : PySem.W.Frag} {mg : Str → Option Value} (T : Txt K mg) : FldOk K (t_Network K) "rule" (tOpt (t_Rule K)) Network.rule := fldOk (j := 3) (T.cls_ 3 rfl) (T.noat 4 rfl) (by decide +kernel) rfl (fun _ => rfl)
theorem f_Run_spikes {K : PySem.W.Frag} {mg : Str → Option Value} (T : Txt K mg) : FldOk K (t_Run K) "spikes" (tList K (tList K tInt)) Run.spikes := fldOk (j := 0) (T.cls_ 39 rfl) (T.noat 41 rfl) (by decide +kernel) rfl (fun _ => rfl)
theorem f_Run_weights {K : PySem.W.Frag} {mg : Str → Option Value} (T : Txt K mg) : FldOk K (t_Run K) "weights" (tList K tInt) Run.weights := fldOk (j := 1) (T.cls_ 39 rfl) (T.noat 40 rfl) (by decide +kernel) rfl (fun _ => rfl)
theorem f_Cells_neurons {K : PySem.W.Frag} {mg : Str → Option Value} (T : Txt K mg) : FldOk K (t_Cells K) "neurons" (tList K (t_Neuron K)) Cells.neurons := fldOk (j := 0) (T.cls_ 30 rfl) (T.noat 38 rfl) (by decide +kernel) rfl (fun _ => rfl)
theorem f_Cells_synapses {K : PySem.W.Frag} {mg : Str → Option Value} (T : Txt K mg) : FldOk K (t_Cells K) "synapses" (tList K (t_Synapse K)) Cells.synapses := fldOk (j := 1) (T.cls_ 30 rfl) (T.noat 37 rfl) (by decide +kernel) rfl (fun _ => rfl)
theorem f_Cells_rule {K : PySem.W.Frag} {mg : Str → Option Value} (T : Txt K mg) : FldOk K (t_Cells K) "rule" (tOpt (t_Rule K)) Cells.rule := fldOk (j := 2) (T.cls_ 30 rfl) (T.noat 36 rfl) (by decide +kernel) rfl (fun _ => rfl)
theorem f_Cells_potentials {K : PySem.W.Frag} {mg : Str → Option Value} (T : Txt K mg) : FldOk K (t_Cells K) "potentials" (tList K tInt) Cells.potentials := fldOk (j := 3) (T.cls_ 30 rfl) (T.noat 35 rfl) (by decide +kernel) rfl (fun _ => rfl)
theorem f_Cells_rests {K : PySem.W.Frag} {mg : Str → Option Value} (T : Txt K mg) : FldOk K (t_Cells K) "rests" (tList K tInt) Cells.rests := fldOk (j := 4) (T.cls_ 30 rfl) (T.noat 34 rfl) (by decide +kernel) rfl (fun _ => rfl)
theorem f_Cells_last_spikes {K : PySem.W.Frag} {mg : Str → Option Value} (T : Txt K mg) : FldOk K (t_Cells K) "last_spikes" (tList K (tOpt tInt)) Cells.last_spikes := fldOk (j := 5) (T.cls_ 30 rfl) (T.noat 33 rfl) (by decide +kernel) rfl (fun _ => rfl)
theorem f_Cells_weights {K : PySem.W.Frag} {mg : Str → Option Value} (T : Txt K mg) : FldOk K (t_Cells K) "weights" (tList K tInt) Cells.weights := fldOk (j := 6) (T.cls_ 30 rfl) (T.noat 32 rfl) (by decide +kernel) rfl (fun _ => rfl)
theorem f_Cells_last_arrivals {K : PySem.W.Frag} {mg : Str → Option Value} (T : Txt K mg) : FldOk K (t_Cells K) "last_arrivals" (tList K (tOpt tInt)) Cells.last_arrivals := fldOk (j := 7) (T.cls_ 30 rfl) (T.noat 31 rfl) (by decide +kernel) rfl (fun _ => rfl)
theorem sc_l_cell : FnScope ["_law_script", "_law_k"] ["_law_script", "_law_k"] (defScope s_l_cell) := ⟨rfl, rfl, rfl, by decide +kernel, rfl, by decide +kernel, by decide +kernel⟩
theorem ok_l_cell {P : Program} {w : World} {K : PySem.W.Frag} {mg : Str → Option Value} {base : Heap} (T : Txt K mg) {f : Addr} {fd : FuncData} (F : FunD K "_law_cell" "_law_cell" (defArgs s_l_cell) (defBody s_l_cell) (defScope s_l_cell) [] [] f fd) : FnOk P w K mg base CX0 1 f fd ["_law_script", "_law_k"] (spF (tCons (tScr K) (tOne tInt)) (fun p => l_cell p.1 p.2) tInt) :=
  okF F sc_l_cell rfl (fun cdv A outer s H E hr q => 
   (bl_ifx (et_cmp (ec_op oc_lt (ev_var (i := 1) rfl rfl (.inl rfl)) (ev_bi bi_lenS rfl (T.free 0 rfl) (ea_one (ev_var (i := 0) rfl rfl (.inl rfl)))))) (bl_retF (fun _ => rfl) (ev_bi bi_int rfl (T.free 1 rfl) (ea_one (ev_ixS (ev_var (i := 0) rfl rfl (.inl rfl)) (ev_var (i := 1) rfl rfl (.inl rfl)))))) (bl_retF (fun _ => rfl) ev_int)))
theorem D_l_cell {P : Program} {w : World} {K : PySem.W.Frag} {mg : Str → Option Value} {base : Heap} (T : Txt K mg) : Dfn P w K mg base "_law_cell" 1 [] (spF (tCons (tScr K) (tOne tInt)) (fun p => l_cell p.1 p.2) tInt) := by
  obtain ⟨fd, F⟩ := T.def_ 0 (d := d_l_cell) rfl
  exact ⟨_, fd, ["_law_script", "_law_k"], [], (T.glo 45 rfl), F.kp, (F.bindsN fun _ _ _ _ _ _ us hl => match us, hl with | [_, _], _ => rfl), .nil, ok_l_cell T F⟩
theorem sc_Network_init : FnScope ["self", "inputs", "neurons", "synapses", "rule"] ["self", "inputs", "neurons", "synapses", "rule"] (defScope s_Network_init) := ⟨rfl, rfl, rfl, by decide +kernel, rfl, by decide +kernel, by decide +kernel⟩
theorem ok_Network_init {P : Program} {w : World} {K : PySem.W.Frag} {mg : Str → Option Value} {base : Heap} (T : Txt K mg) {f : Addr} {fd : FuncData} (F : FunD K "__init__" "Network.__init__" (defArgs s_Network_init) (defBody s_Network_init) (defScope s_Network_init) [.non] [] f fd) : FnOk P w K mg base CX0 1 f fd ["self", "inputs", "neurons", "synapses", "rule"] (spI (He.ga K "Network") (tCons tInt (tCons (tList K (t_Neuron K)) (tCons (tList K (t_Synapse K)) (tOne (tOpt (t_Rule K)))))) (fun p => Network_i p.1 p.2.1 p.2.2.1 p.2.2.2) (m_Network K)) :=
  okI F sc_Network_init rfl (fun cdv A outer s H E hr q u => 
   (bl_fldI (i := 0) rfl rfl (.inl rfl) (T.cls_ 3 rfl) (T.noat 7 rfl) (ev_var (i := 1) rfl rfl (.inl rfl)) fun z0 => (bl_fldI (i := 0) rfl rfl (.inl rfl) (T.cls_ 3 rfl) (T.noat 6 rfl) (ev_of_eo (eo_bi bi_listL rfl (T.free 2 rfl) (ea_one (ev_var (i := 2) rfl rfl (.inl rfl))))) fun z1 => (bl_fldI (i := 0) rfl rfl (.inl rfl) (T.cls_ 3 rfl) (T.noat 5 rfl) (ev_of_eo (eo_bi bi_listL rfl (T.free 2 rfl) (ea_one (ev_var (i := 3) rfl rfl (.inl rfl))))) fun z2 => (bl_fldI (i := 0) rfl rfl (.inl rfl) (T.cls_ 3 rfl) (T.noat 4 rfl) (ev_var (i := 4) rfl rfl (.inl rfl)) fun z3 => (bl_end rfl (endI rfl)))))))
theorem D_Network_init_4 {P : Program} {w : World} {K : PySem.W.Frag} {mg : Str → Option Value} {base : Heap} (T : Txt K mg) : Mak P w K mg base "Network" (He.ga K "Network") 1 [] (spI (He.ga K "Network") (tCons tInt (tCons (tList K (t_Neuron K)) (tCons (tList K (t_Synapse K)) (tOne (tOpt (t_Rule K)))))) (fun p => Network_i p.1 p.2.1 p.2.2.1 p.2.2.2) (m_Network K)) := by
  obtain ⟨fd, F⟩ := T.def_ 1 (d := d_Network_init) rfl
  obtain ⟨ds, dv, db⟩ := F.binds1 (ps := ["self", "inputs", "neurons", "synapses", "rule"]) 5 1 (fun h => nomatch h) rfl fun _ _ _ _ _ _ _ us its h1 h2 => match us, its, h1, h2 with | [_, _, _, _, _], [_], _, _ => ⟨_, rfl, rfl⟩
  exact ⟨_, fd, ["self", "inputs", "neurons", "synapses", "rule"], ds, (T.glo 47 rfl), (T.mkr 46 rfl), db, dv, ok_Network_init T F⟩
theorem sc_Neuron_init : FnScope ["self", "threshold", "leak", "refractory", "floor", "subtract"] ["self", "threshold", "leak", "refractory", "floor", "subtract"] (defScope s_Neuron_init) := ⟨rfl, rfl, rfl, by decide +kernel, rfl, by decide +kernel, by decide +kernel⟩
theorem ok_Neuron_init {P : Program} {w : World} {K : PySem.W.Frag} {mg : Str → Option Value} {base : Heap} (T : Txt K mg) {f : Addr} {fd : FuncData} (F : FunD K "__init__" "Neuron.__init__" (defArgs s_Neuron_init) (defBody s_Neuron_init) (defScope s_Neuron_init) [] [("leak", .int 0), ("refractory", .int 0), ("floor", .int 0), ("subtract", .bl false)] f fd) : FnOk P w K mg base CX0 1 f fd ["self", "threshold", "leak", "refractory", "floor", "subtract"] (spI (He.ga K "Neuron") (tCons tInt (tCons tInt (tCons tInt (tCons tInt (tOne tBool))))) (fun p => Neuron_i p.1 p.2.1 p.2.2.1 p.2.2.2.1 p.2.2.2.2) (m_Neuron K)) :=
  okI F sc_Neuron_init rfl (fun cdv A outer s H E hr q u => 
   (bl_fldI (i := 0) rfl rfl (.inl rfl) (T.cls_ 8 rfl) (T.noat 13 rfl) (ev_var (i := 1) rfl rfl (.inl rfl)) fun z0 => (bl_fldI (i := 0) rfl rfl (.inl rfl) (T.cls_ 8 rfl) (T.noat 12 rfl) (ev_var (i := 2) rfl rfl (.inl rfl)) fun z1 => (bl_fldI (i := 0) rfl rfl (.inl rfl) (T.cls_ 8 rfl) (T.noat 11 rfl) (ev_var (i := 3) rfl rfl (.inl rfl)) fun z2 => (bl_fldI (i := 0) rfl rfl (.inl rfl) (T.cls_ 8 rfl) (T.noat 10 rfl) (ev_var (i := 4) rfl rfl (.inl rfl)) fun z3 => (bl_fldI (i := 0) rfl rfl (.inl rfl) (T.cls_ 8 rfl) (T.noat 9 rfl) (ev_var (i := 5) rfl rfl (.inl rfl)) fun z4 => (bl_end rfl (endI rfl))))))))
theorem D_Neuron_init_k0 {P : Program} {w : World} {K : PySem.W.Frag} {mg : Str → Option Value} {base : Heap} (T : Txt K mg) : MakK P w K mg base "Neuron" (He.ga K "Neuron") 1 1 ["leak", "refractory", "floor", "subtract"] (fun us ws => us ++ ws) (spI (He.ga K "Neuron") (tCons tInt (tCons tInt (tCons tInt (tCons tInt (tOne tBool))))) (fun p => Neuron_i p.1 p.2.1 p.2.2.1 p.2.2.2.1 p.2.2.2.2) (m_Neuron K)) := by
  obtain ⟨fd, F⟩ := T.def_ 2 (d := d_Neuron_init) rfl
  obtain ⟨mv, kb⟩ := F.kbinds0 (ps := ["self", "threshold", "leak", "refractory", "floor", "subtract"]) 2 ["leak", "refractory", "floor", "subtract"] [] (fun us mv ws => us ++ ws) (fun h => nomatch h) (fun _ h => nomatch h) (fun r1 _ r3 => r1.append r3) fun _ _ _ _ _ _ us mv ws h1 h2 h3 => match us, mv, ws, h1, h2, h3 with | [_, _], [], [_, _, _, _], _, _, _ => rfl
  exact ⟨_, fd, ["self", "threshold", "leak", "refractory", "floor", "subtract"], _, (T.glo 49 rfl), (T.mkr 48 rfl), kb, ok_Neuron_init T F⟩
theorem sc_l_neuron : FnScope ["_law_cell_here", "_law_high", "_law_lost"] ["_law_cell_here"] (defScope s_l_neuron) := ⟨rfl, rfl, rfl, by decide +kernel, rfl, by decide +kernel, by decide +kernel⟩
theorem ok_l_neuron {P : Program} {w : World} {K : PySem.W.Frag} {mg : Str → Option Value} {base : Heap} (T : Txt K mg) {f : Addr} {fd : FuncData} (F : FunD K "_law_neuron" "_law_neuron" (defArgs s_l_neuron) (defBody s_l_neuron) (defScope s_l_neuron) [] [] f fd) : FnOk P w K mg base CX0 3 f fd ["_law_cell_here"] (spO (tOne tInt) (fun p => l_neuron p) (m_Neuron K)) :=
  okO F sc_l_neuron rfl (fun cdv A outer s H E hr q => 
   (bl_asg (i := 1) sc_l_neuron.nd rfl (.inl rfl) (ev_op ot_add ev_int (ev_op ot_mod (ev_var (i := 0) rfl rfl (.inl rfl)) ev_int)) fun high => (bl_if (Γj := fun (s1 : Int) => [.val (tInt.P q), .val (tInt.P s1), .any]) (et_cmp (ec_op oc_eq (ev_op ot_mod (ev_var (i := 0) rfl rfl (.inl rfl)) ev_int) ev_int)) (bl_asg (i := 1) sc_l_neuron.nd rfl (.inl rfl) (ev_op ot_add ev_int (ev_op ot_mod (ev_op ot_div (ev_var (i := 0) rfl rfl (.inl rfl)) ev_int) ev_int)) fun high => (bl_nil (.eq (.eq (.eq .nil))) rfl)) (bl_nil (.eq (.eq (.eq .nil))) rfl) fun s1 => (bl_asg (i := 2) sc_l_neuron.nd rfl (.inl rfl) (ev_op ot_mod (ev_op ot_div (ev_var (i := 0) rfl rfl (.inl rfl)) ev_int) ev_int) fun lost => (bl_if (Γj := fun (s2 : Int) => [.val (tInt.P q), .val (tInt.P s1), .val (tInt.P s2)]) (et_cmp (ec_op oc_eq (ev_op ot_mod (ev_op ot_div (ev_var (i := 0) rfl rfl (.inl rfl)) ev_int) ev_int) ev_int)) (bl_asg (i := 2) sc_l_neuron.nd rfl (.inl rfl) (ev_op ot_mod (ev_op ot_div (ev_var (i := 0) rfl rfl (.inl rfl)) ev_int) ev_int) fun lost => (bl_nil (.eq (.eq (.eq .nil))) rfl)) (bl_nil (.eq (.eq (.eq .nil))) rfl) fun s2 => (bl_retO (fun _ => rfl) (eo_mkK (fun p => (p.1, p.2.1, p.2.2.1, p.2.2.2.1, p.2.2.2.2)) (D_Neuron_init_k0 T) (hr.mono (by decide)) rfl (ea_one (ev_var (i := 1) rfl rfl (.inl rfl))) (ek_cons (ev_var (i := 2) rfl rfl (.inl rfl)) (ek_cons (ev_op ot_mod (ev_op ot_div (ev_var (i := 0) rfl rfl (.inl rfl)) ev_int) ev_int) (ek_cons (ev_neg (ev_op ot_mod (ev_op ot_div (ev_var (i := 0) rfl rfl (.inl rfl)) ev_int) ev_int)) (ek_one (ev_cmp (ec_op oc_eq (ev_op ot_mod (ev_op ot_div (ev_var (i := 0) rfl rfl (.inl rfl)) ev_int) ev_int) ev_int)))))) rfl (fun u x y vs zs B ra rb => by obtain ⟨v0, e0, r0⟩ := ra; obtain ⟨v1, w1, e1, r1, v2, w2, e2, r2, v3, w3, e3, r3, v4, e4, r4⟩ := rb; subst e0; subst e1; subst e2; subst e3; subst e4; exact ⟨_, rfl, v0, _, rfl, r0, v1, _, rfl, r1, v2, _, rfl, r2, v3, _, rfl, r3, v4, rfl, r4⟩))))))))
theorem D_l_neuron {P : Program} {w : World} {K : PySem.W.Frag} {mg : Str → Option Value} {base : Heap} (T : Txt K mg) : Dfn P w K mg base "_law_neuron" 3 [] (spO (tOne tInt) (fun p => l_neuron p) (m_Neuron K)) := by
  obtain ⟨fd, F⟩ := T.def_ 3 (d := d_l_neuron) rfl
  exact ⟨_, fd, ["_law_cell_here"], [], (T.glo 50 rfl), F.kp, (F.bindsN fun _ _ _ _ _ _ us hl => match us, hl with | [_], _ => rfl), .nil, ok_l_neuron T F⟩
theorem sc_Rule_init : FnScope ["self", "gain", "loss", "window", "least", "most"] ["self", "gain", "loss", "window", "least", "most"] (defScope s_Rule_init) := ⟨rfl, rfl, rfl, by decide +kernel, rfl, by decide +kernel, by decide +kernel⟩
theorem ok_Rule_init {P : Program} {w : World} {K : PySem.W.Frag} {mg : Str → Option Value} {base : Heap} (T : Txt K mg) {f : Addr} {fd : FuncData} (F : FunD K "__init__" "Rule.__init__" (defArgs s_Rule_init) (defBody s_Rule_init) (defScope s_Rule_init) [] [] f fd) : FnOk P w K mg base CX0 1 f fd ["self", "gain", "loss", "window", "least", "most"] (spI (He.ga K "Rule") (tCons tInt (tCons tInt (tCons tInt (tCons tInt (tOne tInt))))) (fun p => Rule_i p.1 p.2.1 p.2.2.1 p.2.2.2.1 p.2.2.2.2) (m_Rule K)) :=
  okI F sc_Rule_init rfl (fun cdv A outer s H E hr q u => 
   (bl_fldI (i := 0) rfl rfl (.inl rfl) (T.cls_ 14 rfl) (T.noat 19 rfl) (ev_var (i := 1) rfl rfl (.inl rfl)) fun z0 => (bl_fldI (i := 0) rfl rfl (.inl rfl) (T.cls_ 14 rfl) (T.noat 18 rfl) (ev_var (i := 2) rfl rfl (.inl rfl)) fun z1 => (bl_fldI (i := 0) rfl rfl (.inl rfl) (T.cls_ 14 rfl) (T.noat 17 rfl) (ev_var (i := 3) rfl rfl (.inl rfl)) fun z2 => (bl_fldI (i := 0) rfl rfl (.inl rfl) (T.cls_ 14 rfl) (T.noat 16 rfl) (ev_var (i := 4) rfl rfl (.inl rfl)) fun z3 => (bl_fldI (i := 0) rfl rfl (.inl rfl) (T.cls_ 14 rfl) (T.noat 15 rfl) (ev_var (i := 5) rfl rfl (.inl rfl)) fun z4 => (bl_end rfl (endI rfl))))))))
theorem D_Rule_init {P : Program} {w : World} {K : PySem.W.Frag} {mg : Str → Option Value} {base : Heap} (T : Txt K mg) : Mak P w K mg base "Rule" (He.ga K "Rule") 1 [] (spI (He.ga K "Rule") (tCons tInt (tCons tInt (tCons tInt (tCons tInt (tOne tInt))))) (fun p => Rule_i p.1 p.2.1 p.2.2.1 p.2.2.2.1 p.2.2.2.2) (m_Rule K)) := by
  obtain ⟨fd, F⟩ := T.def_ 4 (d := d_Rule_init) rfl
  exact ⟨_, fd, ["self", "gain", "loss", "window", "least", "most"], [], (T.glo 52 rfl), (T.mkr 51 rfl), (F.bindsN fun _ _ _ _ _ _ us hl => match us, hl with | [_, _, _, _, _, _], _ => rfl), .nil, ok_Rule_init T F⟩
theorem sc_Synapse_init : FnScope ["self", "source", "target", "weight", "delay", "plastic"] ["self", "source", "target", "weight", "delay", "plastic"] (defScope s_Synapse_init) := ⟨rfl, rfl, rfl, by decide +kernel, rfl, by decide +kernel, by decide +kernel⟩
theorem ok_Synapse_init {P : Program} {w : World} {K : PySem.W.Frag} {mg : Str → Option Value} {base : Heap} (T : Txt K mg) {f : Addr} {fd : FuncData} (F : FunD K "__init__" "Synapse.__init__" (defArgs s_Synapse_init) (defBody s_Synapse_init) (defScope s_Synapse_init) [.bl false] [] f fd) : FnOk P w K mg base CX0 1 f fd ["self", "source", "target", "weight", "delay", "plastic"] (spI (He.ga K "Synapse") (tCons tInt (tCons tInt (tCons tInt (tCons tInt (tOne tBool))))) (fun p => Synapse_i p.1 p.2.1 p.2.2.1 p.2.2.2.1 p.2.2.2.2) (m_Synapse K)) :=
  okI F sc_Synapse_init rfl (fun cdv A outer s H E hr q u => 
   (bl_fldI (i := 0) rfl rfl (.inl rfl) (T.cls_ 20 rfl) (T.noat 25 rfl) (ev_var (i := 1) rfl rfl (.inl rfl)) fun z0 => (bl_fldI (i := 0) rfl rfl (.inl rfl) (T.cls_ 20 rfl) (T.noat 24 rfl) (ev_var (i := 2) rfl rfl (.inl rfl)) fun z1 => (bl_fldI (i := 0) rfl rfl (.inl rfl) (T.cls_ 20 rfl) (T.noat 23 rfl) (ev_var (i := 3) rfl rfl (.inl rfl)) fun z2 => (bl_fldI (i := 0) rfl rfl (.inl rfl) (T.cls_ 20 rfl) (T.noat 22 rfl) (ev_var (i := 4) rfl rfl (.inl rfl)) fun z3 => (bl_fldI (i := 0) rfl rfl (.inl rfl) (T.cls_ 20 rfl) (T.noat 21 rfl) (ev_var (i := 5) rfl rfl (.inl rfl)) fun z4 => (bl_end rfl (endI rfl))))))))
theorem D_Synapse_init_5 {P : Program} {w : World} {K : PySem.W.Frag} {mg : Str → Option Value} {base : Heap} (T : Txt K mg) : Mak P w K mg base "Synapse" (He.ga K "Synapse") 1 [] (spI (He.ga K "Synapse") (tCons tInt (tCons tInt (tCons tInt (tCons tInt (tOne tBool))))) (fun p => Synapse_i p.1 p.2.1 p.2.2.1 p.2.2.2.1 p.2.2.2.2) (m_Synapse K)) := by
  obtain ⟨fd, F⟩ := T.def_ 5 (d := d_Synapse_init) rfl
  obtain ⟨ds, dv, db⟩ := F.binds1 (ps := ["self", "source", "target", "weight", "delay", "plastic"]) 6 1 (fun h => nomatch h) rfl fun _ _ _ _ _ _ _ us its h1 h2 => match us, its, h1, h2 with | [_, _, _, _, _, _], [_], _, _ => ⟨_, rfl, rfl⟩
  exact ⟨_, fd, ["self", "source", "target", "weight", "delay", "plastic"], ds, (T.glo 54 rfl), (T.mkr 53 rfl), db, dv, ok_Synapse_init T F⟩
theorem sc_l_synapse : FnScope ["_law_cell_here", "_law_sources", "_law_many", "_law_learns", "_law_lag", "_law_heavy"] ["_law_cell_here", "_law_sources", "_law_many", "_law_learns"] (defScope s_l_synapse) := ⟨rfl, rfl, rfl, by decide +kernel, rfl, by decide +kernel, by decide +kernel⟩
theorem ok_l_synapse {P : Program} {w : World} {K : PySem.W.Frag} {mg : Str → Option Value} {base : Heap} (T : Txt K mg) {f : Addr} {fd : FuncData} (F : FunD K "_law_synapse" "_law_synapse" (defArgs s_l_synapse) (defBody s_l_synapse) (defScope s_l_synapse) [] [] f fd) : FnOk P w K mg base CX0 3 f fd ["_law_cell_here", "_law_sources", "_law_many", "_law_learns"] (spO (tCons tInt (tCons tInt (tCons tInt (tOne tBool)))) (fun p => l_synapse p.1 p.2.1 p.2.2.1 p.2.2.2) (m_Synapse K)) :=
  okO F sc_l_synapse rfl (fun cdv A outer s H E hr q => 
   (bl_asg (i := 4) sc_l_synapse.nd rfl (.inl rfl) (ev_op ot_add ev_int (ev_op ot_mod (ev_op ot_div (ev_var (i := 0) rfl rfl (.inl rfl)) ev_int) ev_int)) fun lag => (bl_if (Γj := fun (s1 : Int) => [.val (tInt.P q.1), .val (tInt.P q.2.1), .val (tInt.P q.2.2.1), .val (tBool.P q.2.2.2), .val (tInt.P s1), .any]) (et_cmp (ec_op oc_eq (ev_op ot_mod (ev_var (i := 0) rfl rfl (.inl rfl)) ev_int) ev_int)) (bl_asg (i := 4) sc_l_synapse.nd rfl (.inl rfl) (ev_op ot_add ev_int (ev_op ot_mod (ev_op ot_div (ev_var (i := 0) rfl rfl (.inl rfl)) ev_int) ev_int)) fun lag => (bl_nil (.eq (.eq (.eq (.eq (.eq (.eq .nil)))))) rfl)) (bl_nil (.eq (.eq (.eq (.eq (.eq (.eq .nil)))))) rfl) fun s1 => (bl_asg (i := 5) sc_l_synapse.nd rfl (.inl rfl) (ev_op ot_sub (ev_op ot_mod (ev_op ot_div (ev_var (i := 0) rfl rfl (.inl rfl)) ev_int) ev_int) ev_int) fun heavy => (bl_retO (fun _ => rfl) (eo_mk (fun p => p) (D_Synapse_init_5 T) (hr.mono (by decide)) rfl (ea_cons (ev_op ot_mod (ev_var (i := 0) rfl rfl (.inl rfl)) (ev_var (i := 1) rfl rfl (.inl rfl))) (ea_cons (ev_op ot_mod (ev_op ot_div (ev_var (i := 0) rfl rfl (.inl rfl)) ev_int) (ev_var (i := 2) rfl rfl (.inl rfl))) (ea_cons (ev_var (i := 5) rfl rfl (.inl rfl)) (ea_cons (ev_var (i := 4) rfl rfl (.inl rfl)) (ea_one (ev_and (ev_var (i := 3) rfl rfl (.inl rfl)) (ev_bool1 (ev_cmp (ec_op oc_eq (ev_op ot_mod (ev_op ot_div (ev_var (i := 0) rfl rfl (.inl rfl)) ev_int) ev_int) ev_int))))))))) (fun x vs B r => by rw [List.append_nil]; exact r)))))))
theorem D_l_synapse {P : Program} {w : World} {K : PySem.W.Frag} {mg : Str → Option Value} {base : Heap} (T : Txt K mg) : Dfn P w K mg base "_law_synapse" 3 [] (spO (tCons tInt (tCons tInt (tCons tInt (tOne tBool)))) (fun p => l_synapse p.1 p.2.1 p.2.2.1 p.2.2.2) (m_Synapse K)) := by
  obtain ⟨fd, F⟩ := T.def_ 6 (d := d_l_synapse) rfl
  exact ⟨_, fd, ["_law_cell_here", "_law_sources", "_law_many", "_law_learns"], [], (T.glo 55 rfl), F.kp, (F.bindsN fun _ _ _ _ _ _ us hl => match us, hl with | [_, _, _, _], _ => rfl), .nil, ok_l_synapse T F⟩
theorem sc_l_network : FnScope ["_law_script", "_law_learns", "_law_shape", "_law_inputs", "_law_many", "_law_neurons", "_law_synapses", "_law_k", "_law_rule", "_law_cell_here"] ["_law_script", "_law_learns"] (defScope s_l_network) := ⟨rfl, rfl, rfl, by decide +kernel, rfl, by decide +kernel, by decide +kernel⟩
theorem ok_l_network {P : Program} {w : World} {K : PySem.W.Frag} {mg : Str → Option Value} {base : Heap} (T : Txt K mg) {f : Addr} {fd : FuncData} (F : FunD K "_law_network" "_law_network" (defArgs s_l_network) (defBody s_l_network) (defScope s_l_network) [] [] f fd) : FnOk P w K mg base CX0 4 f fd ["_law_script", "_law_learns"] (spO (tCons (tScr K) (tOne tBool)) (fun p => l_network p.1 p.2) (m_Network K)) :=
  okO F sc_l_network rfl (fun cdv A outer s H E hr q => 
   (bl_asg (i := 2) sc_l_network.nd rfl (.inl rfl) (ev_call (D_l_cell T) (hr.mono (by decide)) rfl (ea_cons (ev_var (i := 0) rfl rfl (.inr (.inl rfl))) (ea_one ev_int))) fun shape => (bl_asg (i := 3) sc_l_network.nd rfl (.inl rfl) (ev_op ot_add ev_int (ev_op ot_mod (ev_var (i := 2) rfl rfl (.inl rfl)) ev_int)) fun inputs => (bl_asg (i := 4) sc_l_network.nd rfl (.inl rfl) (ev_op ot_add ev_int (ev_op ot_mod (ev_op ot_div (ev_var (i := 2) rfl rfl (.inl rfl)) ev_int) ev_int)) fun many => (bl_setLc (i := 5) (own := [("_law_k", 7)]) (ft := (fun _ => some true)) (fe := (fun k => (((a2 (some q.1) (o2 (fun x y => some (x + y)) (some (2 : Int)) (some k))).bind (fun p => l_cell p.1 p.2)).bind (fun p => l_neuron p)))) rfl sc_l_network.nd rfl rfl (Nat.le_of_ble_eq_true rfl) (sw_true rfl rfl rfl rfl) (blkOk_by (by kernel_rfl)) (pim_range1 rfl (T.free 26 rfl) (ev_var (i := 4) rfl rfl (.inl rfl))) (pgc_name (i := 7) (fun _ _ _ _ _ => pg_name (i := 7) sc_l_network.nd rfl (Or.inl rfl))) (by decide) ptc_yes (fun _ _ _ _ _ k => (ev_of_eo (eo_call (D_l_neuron T) (hr.mono (by decide)) rfl (ea_one (ev_call (D_l_cell T) (hr.mono (by decide)) rfl (ea_cons (ev_var (i := 0) rfl rfl (.inr (.inl rfl))) (ea_one (ev_op ot_add ev_int (ev_var (i := 7) rfl rfl (.inl rfl)))))))))) fun neurons => (bl_frz (i := 5) rfl (bl_asgO (μ := (mList K (t_Synapse K))) (i := 6) sc_l_network.nd rfl (.inl rfl) (Nat.le_of_ble_eq_true rfl) (eo_lst (τ := (t_Synapse K)) el_nil) fun synapses => (bl_for (Γl := fun (ls1 : (List Synapse)) => [.val ((tScr K).P q.1), .val (tBool.P q.2), .val (tInt.P shape), .val (tInt.P inputs), .val (tInt.P many), .val ((tList K (t_Neuron K)).P neurons), .own ((mList K (t_Synapse K) ls1)), .any, .any, .any]) (f := (fun (ls1 : (List Synapse)) lx1 => l_network_b1 q.1 q.2 inputs many ls1 lx1)) PassesOwn.never rfl (pim_range2 rfl (T.free 26 rfl) ev_int (ev_bi (bi_min2 rfl) rfl (T.free 27 rfl) (ea_cons ev_int (ea_one (ev_bi bi_lenS rfl (T.free 0 rfl) (ea_one (ev_var (i := 0) rfl rfl (.inr (.inl rfl))))))))) (pgm_name (i := 7) sc_l_network.nd rfl (.inl rfl)) (.eq (.eq (.eq (.eq (.eq (.eq (.eq (.eq (.eq (.eq .nil)))))))))) (fun ls1 lx1 => (bl_app (pt_var (χ := (mList K (t_Synapse K))) (i := 6) rfl rfl (.inl rfl)) (ev_of_eo (eo_call (D_l_synapse T) (hr.mono (by decide)) rfl (ea_cons (ev_bi bi_int rfl (T.free 1 rfl) (ea_one (ev_ixS (ev_var (i := 0) rfl rfl (.inr (.inl rfl))) (ev_var (i := 7) rfl rfl (.inl rfl))))) (ea_cons (ev_op ot_add (ev_var (i := 3) rfl rfl (.inl rfl)) (ev_var (i := 4) rfl rfl (.inl rfl))) (ea_cons (ev_var (i := 4) rfl rfl (.inl rfl)) (ea_one (ev_var (i := 1) rfl rfl (.inl rfl)))))))) fun b1 synapses2 => (bl_nil (.eq (.eq (.eq (.eq (.eq (.eq (.eq (.any (.eq (.eq .nil)))))))))) rfl))) fun s1 => (bl_asg (i := 8) sc_l_network.nd rfl (.inl rfl) ev_none fun rule => (bl_if (Γj := fun (s2 : (Option Rule)) => [.val ((tScr K).P q.1), .val (tBool.P q.2), .val (tInt.P shape), .val (tInt.P inputs), .val (tInt.P many), .val ((tList K (t_Neuron K)).P neurons), .own ((mList K (t_Synapse K) s1)), .any, .val ((tOpt (t_Rule K)).P s2), .any]) (et_w (ew_and (et_val (ev_var (i := 1) rfl rfl (.inl rfl))) (ew_and1 (et_cmp (ec_op oc_gt (ev_op ot_mod (ev_op ot_div (ev_var (i := 2) rfl rfl (.inl rfl)) ev_int) ev_int) ev_int))))) (bl_asg (i := 9) sc_l_network.nd rfl (.inl rfl) (ev_call (D_l_cell T) (hr.mono (by decide)) rfl (ea_cons (ev_var (i := 0) rfl rfl (.inr (.inl rfl))) (ea_one ev_int))) fun cell_here => (bl_asg (i := 8) sc_l_network.nd rfl (.inl rfl) (ev_opt (ev_of_eo (eo_mk (fun p => p) (D_Rule_init T) (hr.mono (by decide)) rfl (ea_cons (ev_op ot_mod (ev_var (i := 9) rfl rfl (.inl rfl)) ev_int) (ea_cons (ev_op ot_mod (ev_op ot_div (ev_var (i := 9) rfl rfl (.inl rfl)) ev_int) ev_int) (ea_cons (ev_op ot_add (ev_op ot_mod (ev_op ot_div (ev_var (i := 9) rfl rfl (.inl rfl)) ev_int) ev_int) (ev_op ot_mul ev_int (ev_op ot_mod (ev_op ot_div (ev_var (i := 9) rfl rfl (.inl rfl)) ev_int) ev_int))) (ea_cons (ev_op ot_sub (ev_neg ev_int) (ev_op ot_mod (ev_op ot_div (ev_var (i := 9) rfl rfl (.inl rfl)) ev_int) ev_int)) (ea_one (ev_op ot_add ev_int (ev_op ot_mod (ev_op ot_div (ev_var (i := 9) rfl rfl (.inl rfl)) ev_int) ev_int))))))) (fun x vs B r => by rw [List.append_nil]; exact r)))) fun rule => (bl_nil (.eq (.eq (.eq (.eq (.eq (.eq (.eq (.eq (.eq (.any .nil)))))))))) rfl))) (bl_nil (.eq (.eq (.eq (.eq (.eq (.eq (.eq (.eq (.eq (.eq .nil)))))))))) rfl) fun s2 => (bl_frz (i := 6) rfl (bl_retO (fun _ => rfl) (eo_mk (fun p => p) (D_Network_init_4 T) (hr.mono (by decide)) rfl (ea_cons (ev_var (i := 3) rfl rfl (.inl rfl)) (ea_cons (ev_var (i := 5) rfl rfl (.inl rfl)) (ea_cons (ev_var (i := 6) rfl rfl (.inl rfl)) (ea_one (ev_var (i := 8) rfl rfl (.inl rfl)))))) (fun x vs B r => by rw [List.append_nil]; exact r))))))))))))))
theorem D_l_network {P : Program} {w : World} {K : PySem.W.Frag} {mg : Str → Option Value} {base : Heap} (T : Txt K mg) : Dfn P w K mg base "_law_network" 4 [] (spO (tCons (tScr K) (tOne tBool)) (fun p => l_network p.1 p.2) (m_Network K)) := by
  obtain ⟨fd, F⟩ := T.def_ 7 (d := d_l_network) rfl
  exact ⟨_, fd, ["_law_script", "_law_learns"], [], (T.glo 56 rfl), F.kp, (F.bindsN fun _ _ _ _ _ _ us hl => match us, hl with | [_, _], _ => rfl), .nil, ok_l_network T F⟩
theorem sc_l_stimuli : FnScope ["_law_script", "_law_inputs", "_law_stimuli_here", "_law_k", "_law_j"] ["_law_script", "_law_inputs"] (defScope s_l_stimuli) := ⟨rfl, rfl, rfl, by decide +kernel, rfl, by decide +kernel, by decide +kernel⟩
theorem ok_l_stimuli {P : Program} {w : World} {K : PySem.W.Frag} {mg : Str → Option Value} {base : Heap} (T : Txt K mg) {f : Addr} {fd : FuncData} (F : FunD K "_law_stimuli" "_law_stimuli" (defArgs s_l_stimuli) (defBody s_l_stimuli) (defScope s_l_stimuli) [] [] f fd) : FnOk P w K mg base CX0 1 f fd ["_law_script", "_law_inputs"] (spF (tCons (tScr K) (tOne tInt)) (fun p => l_stimuli p.1 p.2) (tList K (tList K tInt))) :=
  okF F sc_l_stimuli rfl (fun cdv A outer s H E hr q => 
   (bl_asgO (μ := (mList K (tList K tInt))) (i := 2) sc_l_stimuli.nd rfl (.inl rfl) (Nat.le_of_ble_eq_true rfl) (eo_lst (τ := (tList K tInt)) el_nil) fun stimuli_here => (bl_for (Γl := fun (ls1 : (List (List Int))) => [.val ((tScr K).P q.1), .val (tInt.P q.2), .own ((mList K (tList K tInt) ls1)), .any, .any]) (f := (fun (ls1 : (List (List Int))) lx1 => l_stimuli_b1 q.1 q.2 ls1 lx1)) PassesOwn.never rfl (pim_range2 rfl (T.free 26 rfl) ev_int (ev_bi (bi_min2 rfl) rfl (T.free 27 rfl) (ea_cons ev_int (ea_one (ev_bi bi_lenS rfl (T.free 0 rfl) (ea_one (ev_var (i := 0) rfl rfl (.inr (.inl rfl))))))))) (pgm_name (i := 3) sc_l_stimuli.nd rfl (.inr rfl)) (.eq (.eq (.eq (.eq (.eq .nil))))) (fun ls1 lx1 => (bl_app (pt_var (χ := (mList K (tList K tInt))) (i := 2) rfl rfl (.inl rfl)) (ev_of_eo (eo_lc (own := [("_law_j", 4)]) (ft := (fun j => (o2 (fun x y => some (decide (x = y))) (o2 modG (o2 divG ((o2 atI (some q.1) (some lx1)).bind (fun i => some i)) (o2 shlG (some (1 : Int)) (some j))) (some (2 : Int))) (some (1 : Int))))) (fe := (fun j => (some j))) rfl sc_l_stimuli.nd (blkOk_by (by kernel_rfl)) (pim_range1 rfl (T.free 26 rfl) (ev_var (i := 1) rfl rfl (.inl rfl))) (pgc_name (i := 4) (fun _ _ _ _ _ => pg_name (i := 4) sc_l_stimuli.nd rfl (Or.inl rfl))) (by decide) (ptc_if (fun _ _ _ _ _ j => (et_cmp (ec_op oc_eq (ev_op ot_mod (ev_op ot_div (ev_bi bi_int rfl (T.free 1 rfl) (ea_one (ev_ixS (ev_var (i := 0) rfl rfl (.inr (.inl rfl))) (ev_var (i := 3) rfl rfl (.inr (.inl rfl)))))) (ev_op ot_shl ev_int (ev_var (i := 4) rfl rfl (.inl rfl)))) ev_int) ev_int)))) (fun _ _ _ _ _ j => (ev_var (i := 4) rfl rfl (.inl rfl))))) fun b1 stimuli_here2 => (bl_nil (.eq (.eq (.eq (.any (.eq .nil))))) rfl))) fun s1 => (bl_frz (i := 2) rfl (bl_retF (fun _ => rfl) (ev_var (i := 2) rfl rfl (.inl rfl)))))))
theorem D_l_stimuli {P : Program} {w : World} {K : PySem.W.Frag} {mg : Str → Option Value} {base : Heap} (T : Txt K mg) : Dfn P w K mg base "_law_stimuli" 1 [] (spF (tCons (tScr K) (tOne tInt)) (fun p => l_stimuli p.1 p.2) (tList K (tList K tInt))) := by
  obtain ⟨fd, F⟩ := T.def_ 8 (d := d_l_stimuli) rfl
  exact ⟨_, fd, ["_law_script", "_law_inputs"], [], (T.glo 57 rfl), F.kp, (F.bindsN fun _ _ _ _ _ _ us hl => match us, hl with | [_, _], _ => rfl), .nil, ok_l_stimuli T F⟩
theorem sc_p_initial_state : FnScope ["network", "zeros", "neuron", "k"] ["network"] (defScope s_p_initial_state) := ⟨rfl, rfl, rfl, by decide +kernel, rfl, by decide +kernel, by decide +kernel⟩
theorem ok_p_initial_state {P : Program} {w : World} {K : PySem.W.Frag} {mg : Str → Option Value} {base : Heap} (T : Txt K mg) {f : Addr} {fd : FuncData} (F : FunD K "initial_state" "initial_state" (defArgs s_p_initial_state) (defBody s_p_initial_state) (defScope s_p_initial_state) [] [] f fd) : FnOk P w K mg base CX0 1 f fd ["network"] (spF (tOne (t_Network K)) (fun p => p_initial_state p) (tTup K (tCons (tTups K tInt) (tCons (tTups K tInt) (tOne (tTups K (tTups K tInt))))))) :=
  okF F sc_p_initial_state rfl (fun cdv A outer s H E hr q => 
   (bl_asg (i := 1) sc_p_initial_state.nd rfl (.inr rfl) (ev_bi bi_tupL rfl (T.free 28 rfl) (ea_one (ev_of_eo (eo_lc (own := [("neuron", 2)]) (ft := (fun _ => some true)) (fe := (fun neuron => (some (0 : Int)))) rfl sc_p_initial_state.nd (blkOk_by (by kernel_rfl)) (pim_list (ev_fld (f_Network_neurons T) (ev_var (i := 0) rfl rfl (.inl rfl)))) (pgc_name (i := 2) (fun _ _ _ _ _ => pg_name (i := 2) sc_p_initial_state.nd rfl (Or.inl rfl))) (by decide) ptc_yes (fun _ _ _ _ _ neuron => ev_int))))) fun zeros => (bl_retF (fun _ => rfl) (ev_tup (ea_cons (ev_var (i := 1) rfl rfl (.inr (.inl rfl))) (ea_cons (ev_var (i := 1) rfl rfl (.inr (.inl rfl))) (ea_one (ev_bi bi_tupL rfl (T.free 28 rfl) (ea_one (ev_of_eo (eo_lc (own := [("k", 3)]) (ft := (fun _ => some true)) (fe := (fun k => (some zeros))) rfl sc_p_initial_state.nd (blkOk_by (by kernel_rfl)) (pim_range1 rfl (T.free 26 rfl) (ev_glI (T.int_ 29 rfl) rfl)) (pgc_name (i := 3) (fun _ _ _ _ _ => pg_name (i := 3) sc_p_initial_state.nd rfl (Or.inl rfl))) (by decide) ptc_yes (fun _ _ _ _ _ k => (ev_var (i := 1) rfl rfl (.inr (.inl rfl))))))))))) (Nat.le_of_ble_eq_true rfl)))))
theorem D_p_initial_state {P : Program} {w : World} {K : PySem.W.Frag} {mg : Str → Option Value} {base : Heap} (T : Txt K mg) : Dfn P w K mg base "initial_state" 1 [] (spF (tOne (t_Network K)) (fun p => p_initial_state p) (tTup K (tCons (tTups K tInt) (tCons (tTups K tInt) (tOne (tTups K (tTups K tInt))))))) := by
  obtain ⟨fd, F⟩ := T.def_ 9 (d := d_p_initial_state) rfl
  exact ⟨_, fd, ["network"], [], (T.glo 58 rfl), F.kp, (F.bindsN fun _ _ _ _ _ _ us hl => match us, hl with | [_], _ => rfl), .nil, ok_p_initial_state T F⟩
theorem sc_l_claims : FnScope ["_law_script", "_law_network_here", "_law_cell_here", "_law_many", "_law_claims_here", "_law_first"] ["_law_script", "_law_network_here"] (defScope s_l_claims) := ⟨rfl, rfl, rfl, by decide +kernel, rfl, by decide +kernel, by decide +kernel⟩
theorem ok_l_claims {P : Program} {w : World} {K : PySem.W.Frag} {mg : Str → Option Value} {base : Heap} (T : Txt K mg) {f : Addr} {fd : FuncData} (F : FunD K "_law_claims" "_law_claims" (defArgs s_l_claims) (defBody s_l_claims) (defScope s_l_claims) [] [] f fd) : FnOk P w K mg base CX0 2 f fd ["_law_script", "_law_network_here"] (spF (tCons (tScr K) (tOne (t_Network K))) (fun p => l_claims p.1 p.2) (tList K (tTups K tSI))) :=
  okF F sc_l_claims rfl (fun cdv A outer s H E hr q => 
   (bl_asg (i := 2) sc_l_claims.nd rfl (.inl rfl) (ev_call (D_l_cell T) (hr.mono (by decide)) rfl (ea_cons (ev_var (i := 0) rfl rfl (.inl rfl)) (ea_one ev_int))) fun cell_here => (bl_asg (i := 3) sc_l_claims.nd rfl (.inl rfl) (ev_bi bi_len rfl (T.free 0 rfl) (ea_one (ev_fld (f_Network_neurons T) (ev_var (i := 1) rfl rfl (.inl rfl))))) fun many => (bl_asgO (μ := (mList K (tTups K tSI))) (i := 4) sc_l_claims.nd rfl (.inl rfl) (Nat.le_of_ble_eq_true rfl) (eo_lst (τ := (tTups K tSI)) (el_cons (ev_tt (f := (fun (p : (Str × Int)) => [SI.s p.1, SI.i p.2])) (tt_cons coS (tt_one coI)) (ev_tup (ea_cons ev_str (ea_one (ev_op ot_mod (ev_var (i := 2) rfl rfl (.inl rfl)) (ev_var (i := 3) rfl rfl (.inl rfl))))) (Nat.le_of_ble_eq_true rfl))) (el_cons (ev_tt (f := (fun (p : (Str × Int × Int × Int)) => [SI.s p.1, SI.i p.2.1, SI.i p.2.2.1, SI.i p.2.2.2])) (tt_cons coS (tt_cons coI (tt_cons coI (tt_one coI)))) (ev_tup (ea_cons ev_str (ea_cons (ev_op ot_mod (ev_op ot_div (ev_var (i := 2) rfl rfl (.inl rfl)) ev_int) (ev_fld (f_Network_inputs T) (ev_var (i := 1) rfl rfl (.inl rfl)))) (ea_cons (ev_op ot_mod (ev_op ot_div (ev_var (i := 2) rfl rfl (.inl rfl)) ev_int) (ev_var (i := 3) rfl rfl (.inl rfl))) (ea_one (ev_op ot_add ev_int (ev_op ot_mod (ev_op ot_div (ev_var (i := 2) rfl rfl (.inl rfl)) ev_int) ev_int)))))) (Nat.le_of_ble_eq_true rfl))) el_nil))) fun claims_here => (bl_if (Γj := fun (s1 : (List (List SI))) => [.val ((tScr K).P q.1), .val ((t_Network K).P q.2), .val (tInt.P cell_here), .val (tInt.P many), .own ((mList K (tTups K tSI) s1)), .any]) (et_cmp (ec_op oc_gt (ev_var (i := 3) rfl rfl (.inl rfl)) ev_int)) (bl_asg (i := 5) sc_l_claims.nd rfl (.inl rfl) (ev_op ot_mod (ev_op ot_div (ev_var (i := 2) rfl rfl (.inl rfl)) ev_int) (ev_var (i := 3) rfl rfl (.inl rfl))) fun first => (bl_app (pt_var (χ := (mList K (tTups K tSI))) (i := 4) rfl rfl (.inl rfl)) (ev_tt (f := (fun (p : (Str × Int × Int)) => [SI.s p.1, SI.i p.2.1, SI.i p.2.2])) (tt_cons coS (tt_cons coI (tt_one coI))) (ev_tup (ea_cons ev_str (ea_cons (ev_var (i := 5) rfl rfl (.inl rfl)) (ea_one (ev_op ot_mod (ev_op ot_add (ev_op ot_add (ev_var (i := 5) rfl rfl (.inl rfl)) ev_int) (ev_op ot_mod (ev_op ot_div (ev_var (i := 2) rfl rfl (.inl rfl)) ev_int) (ev_op ot_sub (ev_var (i := 3) rfl rfl (.inl rfl)) ev_int))) (ev_var (i := 3) rfl rfl (.inl rfl)))))) (Nat.le_of_ble_eq_true rfl))) fun b1 claims_here2 => (bl_nil (.eq (.eq (.eq (.eq (.eq (.any .nil)))))) rfl))) (bl_nil (.eq (.eq (.eq (.eq (.eq (.eq .nil)))))) rfl) fun s1 => (bl_frz (i := 4) rfl (bl_retF (fun _ => rfl) (ev_var (i := 4) rfl rfl (.inl rfl)))))))))
theorem D_l_claims {P : Program} {w : World} {K : PySem.W.Frag} {mg : Str → Option Value} {base : Heap} (T : Txt K mg) : Dfn P w K mg base "_law_claims" 2 [] (spF (tCons (tScr K) (tOne (t_Network K))) (fun p => l_claims p.1 p.2) (tList K (tTups K tSI))) := by
  obtain ⟨fd, F⟩ := T.def_ 10 (d := d_l_claims) rfl
  exact ⟨_, fd, ["_law_script", "_law_network_here"], [], (T.glo 59 rfl), F.kp, (F.bindsN fun _ _ _ _ _ _ us hl => match us, hl with | [_, _], _ => rfl), .nil, ok_l_claims T F⟩
theorem sc_Cells_init : FnScope ["self", "neurons", "synapses", "rule", "synapse"] ["self", "neurons", "synapses", "rule"] (defScope s_Cells_init) := ⟨rfl, rfl, rfl, by decide +kernel, rfl, by decide +kernel, by decide +kernel⟩
theorem ok_Cells_init {P : Program} {w : World} {K : PySem.W.Frag} {mg : Str → Option Value} {base : Heap} (T : Txt K mg) {f : Addr} {fd : FuncData} (F : FunD K "__init__" "Cells.__init__" (defArgs s_Cells_init) (defBody s_Cells_init) (defScope s_Cells_init) [] [] f fd) : FnOk P w K mg base CX0 1 f fd ["self", "neurons", "synapses", "rule"] (spI (He.ga K "Cells") (tCons (tList K (t_Neuron K)) (tCons (tList K (t_Synapse K)) (tOne (tOpt (t_Rule K))))) (fun p => Cells_i p.1 p.2.1 p.2.2) (m_Cells K)) :=
  okI F sc_Cells_init rfl (fun cdv A outer s H E hr q u => 
   (bl_fldI (i := 0) rfl rfl (.inl rfl) (T.cls_ 30 rfl) (T.noat 38 rfl) (ev_var (i := 1) rfl rfl (.inl rfl)) fun z0 => (bl_fldI (i := 0) rfl rfl (.inl rfl) (T.cls_ 30 rfl) (T.noat 37 rfl) (ev_var (i := 2) rfl rfl (.inl rfl)) fun z1 => (bl_fldI (i := 0) rfl rfl (.inl rfl) (T.cls_ 30 rfl) (T.noat 36 rfl) (ev_var (i := 3) rfl rfl (.inl rfl)) fun z2 => (bl_fldIO (μ := (mList K tInt)) (i := 0) rfl rfl (.inl rfl) (T.cls_ 30 rfl) (T.noat 35 rfl) (eo_rep (ev_of_eo (eo_lst (τ := tInt) (el_cons ev_int el_nil))) (ev_bi bi_len rfl (T.free 0 rfl) (ea_one (ev_var (i := 1) rfl rfl (.inl rfl))))) fun z3 => (bl_fldIO (μ := (mList K tInt)) (i := 0) rfl rfl (.inl rfl) (T.cls_ 30 rfl) (T.noat 34 rfl) (eo_rep (ev_of_eo (eo_lst (τ := tInt) (el_cons ev_int el_nil))) (ev_bi bi_len rfl (T.free 0 rfl) (ea_one (ev_var (i := 1) rfl rfl (.inl rfl))))) fun z4 => (bl_fldIO (μ := (mList K (tOpt tInt))) (i := 0) rfl rfl (.inl rfl) (T.cls_ 30 rfl) (T.noat 33 rfl) (eo_rep (ev_of_eo (eo_lst (τ := (tOpt tInt)) (el_cons ev_none el_nil))) (ev_bi bi_len rfl (T.free 0 rfl) (ea_one (ev_var (i := 1) rfl rfl (.inl rfl))))) fun z5 => (bl_fldIO (μ := (mList K tInt)) (i := 0) rfl rfl (.inl rfl) (T.cls_ 30 rfl) (T.noat 32 rfl) (eo_lc (own := [("synapse", 4)]) (ft := (fun _ => some true)) (fe := (fun synapse => (o1 Synapse.weight (some synapse)))) rfl sc_Cells_init.nd (blkOk_by (by kernel_rfl)) (pim_list (ev_var (i := 2) rfl rfl (.inl rfl))) (pgc_name (i := 4) (fun _ _ _ _ _ => pg_name (i := 4) sc_Cells_init.nd rfl (Or.inl rfl))) (by decide) ptc_yes (fun _ _ _ _ _ synapse => (ev_fld (f_Synapse_weight T) (ev_var (i := 4) rfl rfl (.inl rfl))))) fun z6 => (bl_fldIO (μ := (mList K (tOpt tInt))) (i := 0) rfl rfl (.inl rfl) (T.cls_ 30 rfl) (T.noat 31 rfl) (eo_rep (ev_of_eo (eo_lst (τ := (tOpt tInt)) (el_cons ev_none el_nil))) (ev_bi bi_len rfl (T.free 0 rfl) (ea_one (ev_var (i := 2) rfl rfl (.inl rfl))))) fun z7 => (bl_end rfl (endI rfl)))))))))))
theorem D_Cells_init {P : Program} {w : World} {K : PySem.W.Frag} {mg : Str → Option Value} {base : Heap} (T : Txt K mg) : Mak P w K mg base "Cells" (He.ga K "Cells") 1 [] (spI (He.ga K "Cells") (tCons (tList K (t_Neuron K)) (tCons (tList K (t_Synapse K)) (tOne (tOpt (t_Rule K))))) (fun p => Cells_i p.1 p.2.1 p.2.2) (m_Cells K)) := by
  obtain ⟨fd, F⟩ := T.def_ 11 (d := d_Cells_init) rfl
  exact ⟨_, fd, ["self", "neurons", "synapses", "rule"], [], (T.glo 61 rfl), (T.mkr 60 rfl), (F.bindsN fun _ _ _ _ _ _ us hl => match us, hl with | [_, _, _, _], _ => rfl), .nil, ok_Cells_init T F⟩
theorem sc_Run_init : FnScope ["self", "spikes", "weights"] ["self", "spikes", "weights"] (defScope s_Run_init) := ⟨rfl, rfl, rfl, by decide +kernel, rfl, by decide +kernel, by decide +kernel⟩
theorem ok_Run_init {P : Program} {w : World} {K : PySem.W.Frag} {mg : Str → Option Value} {base : Heap} (T : Txt K mg) {f : Addr} {fd : FuncData} (F : FunD K "__init__" "Run.__init__" (defArgs s_Run_init) (defBody s_Run_init) (defScope s_Run_init) [] [] f fd) : FnOk P w K mg base CX0 1 f fd ["self", "spikes", "weights"] (spI (He.ga K "Run") (tCons (tList K (tList K tInt)) (tOne (tList K tInt))) (fun p => Run_i p.1 p.2) (m_Run K)) :=
  okI F sc_Run_init rfl (fun cdv A outer s H E hr q u => 
   (bl_fldI (i := 0) rfl rfl (.inl rfl) (T.cls_ 39 rfl) (T.noat 41 rfl) (ev_var (i := 1) rfl rfl (.inl rfl)) fun z0 => (bl_fldI (i := 0) rfl rfl (.inl rfl) (T.cls_ 39 rfl) (T.noat 40 rfl) (ev_var (i := 2) rfl rfl (.inl rfl)) fun z1 => (bl_end rfl (endI rfl)))))
theorem D_Run_init {P : Program} {w : World} {K : PySem.W.Frag} {mg : Str → Option Value} {base : Heap} (T : Txt K mg) : Mak P w K mg base "Run" (He.ga K "Run") 1 [] (spI (He.ga K "Run") (tCons (tList K (tList K tInt)) (tOne (tList K tInt))) (fun p => Run_i p.1 p.2) (m_Run K)) := by
  obtain ⟨fd, F⟩ := T.def_ 12 (d := d_Run_init) rfl
  exact ⟨_, fd, ["self", "spikes", "weights"], [], (T.glo 63 rfl), (T.mkr 62 rfl), (F.bindsN fun _ _ _ _ _ _ us hl => match us, hl with | [_, _, _], _ => rfl), .nil, ok_Run_init T F⟩
theorem sc_p_recent : FnScope ["rule", "last", "tick"] ["rule", "last", "tick"] (defScope s_p_recent) := ⟨rfl, rfl, rfl, by decide +kernel, rfl, by decide +kernel, by decide +kernel⟩
theorem ok_p_recent {P : Program} {w : World} {K : PySem.W.Frag} {mg : Str → Option Value} {base : Heap} (T : Txt K mg) {f : Addr} {fd : FuncData} (F : FunD K "recent" "recent" (defArgs s_p_recent) (defBody s_p_recent) (defScope s_p_recent) [] [] f fd) : FnOk P w K mg base CX0 1 f fd ["rule", "last", "tick"] (spF (tCons (t_Rule K) (tCons (tOpt tInt) (tOne tInt))) (fun p => p_recent p.1 p.2.1 p.2.2) tBool) :=
  okF F sc_p_recent rfl (fun cdv A outer s H E hr q => 
   (bl_retF (fun _ => rfl) (ev_and (ev_cmp (ec_notN (ev_var (i := 1) rfl rfl (.inl rfl)))) (ev_bool1 (ev_cmp (ec_op oc_le (ev_op ot_sub (ev_var (i := 2) rfl rfl (.inl rfl)) (ev_get (ev_var (i := 1) rfl rfl (.inl rfl)))) (ev_fld (f_Rule_window T) (ev_var (i := 0) rfl rfl (.inl rfl)))))))))
theorem D_p_recent {P : Program} {w : World} {K : PySem.W.Frag} {mg : Str → Option Value} {base : Heap} (T : Txt K mg) : Dfn P w K mg base "recent" 1 [] (spF (tCons (t_Rule K) (tCons (tOpt tInt) (tOne tInt))) (fun p => p_recent p.1 p.2.1 p.2.2) tBool) := by
  obtain ⟨fd, F⟩ := T.def_ 13 (d := d_p_recent) rfl
  exact ⟨_, fd, ["rule", "last", "tick"], [], (T.glo 64 rfl), F.kp, (F.bindsN fun _ _ _ _ _ _ us hl => match us, hl with | [_, _, _], _ => rfl), .nil, ok_p_recent T F⟩
theorem sc_p_depressed : FnScope ["rule", "weight"] ["rule", "weight"] (defScope s_p_depressed) := ⟨rfl, rfl, rfl, by decide +kernel, rfl, by decide +kernel, by decide +kernel⟩
theorem ok_p_depressed {P : Program} {w : World} {K : PySem.W.Frag} {mg : Str → Option Value} {base : Heap} (T : Txt K mg) {f : Addr} {fd : FuncData} (F : FunD K "depressed" "depressed" (defArgs s_p_depressed) (defBody s_p_depressed) (defScope s_p_depressed) [] [] f fd) : FnOk P w K mg base CX0 1 f fd ["rule", "weight"] (spF (tCons (t_Rule K) (tOne tInt)) (fun p => p_depressed p.1 p.2) tInt) :=
  okF F sc_p_depressed rfl (fun cdv A outer s H E hr q => 
   (bl_retF (fun _ => rfl) (ev_bi (bi_max2 rfl) rfl (T.free 42 rfl) (ea_cons (ev_fld (f_Rule_least T) (ev_var (i := 0) rfl rfl (.inl rfl))) (ea_one (ev_op ot_sub (ev_var (i := 1) rfl rfl (.inl rfl)) (ev_fld (f_Rule_loss T) (ev_var (i := 0) rfl rfl (.inl rfl)))))))))
theorem D_p_depressed {P : Program} {w : World} {K : PySem.W.Frag} {mg : Str → Option Value} {base : Heap} (T : Txt K mg) : Dfn P w K mg base "depressed" 1 [] (spF (tCons (t_Rule K) (tOne tInt)) (fun p => p_depressed p.1 p.2) tInt) := by
  obtain ⟨fd, F⟩ := T.def_ 14 (d := d_p_depressed) rfl
  exact ⟨_, fd, ["rule", "weight"], [], (T.glo 65 rfl), F.kp, (F.bindsN fun _ _ _ _ _ _ us hl => match us, hl with | [_, _], _ => rfl), .nil, ok_p_depressed T F⟩
theorem sc_Cells_arrive : FnScope ["self", "tick", "arriving", "sums", "k", "synapse"] ["self", "tick", "arriving"] (defScope s_Cells_arrive) := ⟨rfl, rfl, rfl, by decide +kernel, rfl, by decide +kernel, by decide +kernel⟩
theorem ok_Cells_arrive {P : Program} {w : World} {K : PySem.W.Frag} {mg : Str → Option Value} {base : Heap} (T : Txt K mg) {f : Addr} {fd : FuncData} (F : FunD K "arrive" "Cells.arrive" (defArgs s_Cells_arrive) (defBody s_Cells_arrive) (defScope s_Cells_arrive) [] [] f fd) : FnOk P w K mg base CX0 2 f fd ["self", "tick", "arriving"] (spM (m_Cells K) (tCons tInt (tOne (tList K tInt))) (fun g p => Cells_arrive g p.1 p.2) (tList K tInt)) :=
  okM F sc_Cells_arrive rfl (fun cdv A outer s H E hr g q u => 
   (bl_asgO (μ := (mList K tInt)) (i := 3) sc_Cells_arrive.nd rfl (.inl rfl) (Nat.le_of_ble_eq_true rfl) (eo_rep (ev_of_eo (eo_lst (τ := tInt) (el_cons ev_int el_nil))) (ev_bi bi_len rfl (T.free 0 rfl) (ea_one (ev_pfld (j := 0) (h := Cells.neurons) (pt_at (χ := (m_Cells K)) (i := 0) rfl rfl (.inl rfl)) (T.cls_ 30 rfl) (T.noat 38 rfl))))) fun sums => (bl_for (Γl := fun (ls1 : Cells × (List Int)) => [.own ((m_Cells K ls1.1).at u), .val (tInt.P q.1), .val ((tList K tInt).P q.2), .own ((mList K tInt ls1.2)), .any, .any]) (f := (fun (ls1 : Cells × (List Int)) lx1 => Cells_arrive_b1 q.1 ls1.1 ls1.2 lx1)) PassesOwn.never rfl (pim_list (ev_var (i := 2) rfl rfl (.inl rfl))) (pgm_name (i := 4) sc_Cells_arrive.nd rfl (.inl rfl)) (.eq (.eq (.eq (.eq (.eq (.eq .nil)))))) (fun ls1 lx1 => (bl_asg (i := 5) sc_Cells_arrive.nd rfl (.inl rfl) (ev_ix (ev_pfld (j := 1) (h := Cells.synapses) (pt_at (χ := (m_Cells K)) (i := 0) rfl rfl (.inl rfl)) (T.cls_ 30 rfl) (T.noat 37 rfl)) (ev_var (i := 4) rfl rfl (.inl rfl))) fun synapse => (bl_augI (f := (fun i j => i + j)) ip_add (pt_var (χ := (mList K tInt)) (i := 3) rfl rfl (.inl rfl)) (ev_fld (f_Synapse_target T) (ev_var (i := 5) rfl rfl (.inl rfl))) (ev_pix (pt_fld (j := 6) (g := Cells.weights) (χ := (mList K tInt)) (fun d x => { d with weights := x }) (pt_at (χ := (m_Cells K)) (i := 0) rfl rfl (.inl rfl)) (T.cls_ 30 rfl) (T.noat 32 rfl) (fun _ => rfl) (fun _ _ => rfl)) (ev_var (i := 4) rfl rfl (.inl rfl))) fun b1 sums2 => (bl_setI (ev_opt (ev_var (i := 1) rfl rfl (.inl rfl))) (pt_fld (j := 7) (g := Cells.last_arrivals) (χ := (mList K (tOpt tInt))) (fun d x => { d with last_arrivals := x }) (pt_at (χ := (m_Cells K)) (i := 0) rfl rfl (.inl rfl)) (T.cls_ 30 rfl) (T.noat 31 rfl) (fun _ => rfl) (fun _ _ => rfl)) (ev_var (i := 4) rfl rfl (.inl rfl)) fun b3 self4 => (bl_ifl (et_w (ew_and (et_cmp (ec_notN (ev_pfld (j := 2) (h := Cells.rule) (pt_at (χ := (m_Cells K)) (i := 0) rfl rfl (.inl rfl)) (T.cls_ 30 rfl) (T.noat 36 rfl)))) (ew_and1 (et_val (ev_fld (f_Synapse_plastic T) (ev_var (i := 5) rfl rfl (.inl rfl))))))) (bl_ifl (et_val (ev_call (D_p_recent T) (hr.mono (by decide)) rfl (ea_cons (ev_get (ev_pfld (j := 2) (h := Cells.rule) (pt_at (χ := (m_Cells K)) (i := 0) rfl rfl (.inl rfl)) (T.cls_ 30 rfl) (T.noat 36 rfl))) (ea_cons (ev_pix (pt_fld (j := 5) (g := Cells.last_spikes) (χ := (mList K (tOpt tInt))) (fun d x => { d with last_spikes := x }) (pt_at (χ := (m_Cells K)) (i := 0) rfl rfl (.inl rfl)) (T.cls_ 30 rfl) (T.noat 33 rfl) (fun _ => rfl) (fun _ _ => rfl)) (ev_fld (f_Synapse_target T) (ev_var (i := 5) rfl rfl (.inl rfl)))) (ea_one (ev_var (i := 1) rfl rfl (.inl rfl))))))) (bl_setI (ev_call (D_p_depressed T) (hr.mono (by decide)) rfl (ea_cons (ev_get (ev_pfld (j := 2) (h := Cells.rule) (pt_at (χ := (m_Cells K)) (i := 0) rfl rfl (.inl rfl)) (T.cls_ 30 rfl) (T.noat 36 rfl))) (ea_one (ev_pix (pt_fld (j := 6) (g := Cells.weights) (χ := (mList K tInt)) (fun d x => { d with weights := x }) (pt_at (χ := (m_Cells K)) (i := 0) rfl rfl (.inl rfl)) (T.cls_ 30 rfl) (T.noat 32 rfl) (fun _ => rfl) (fun _ _ => rfl)) (ev_var (i := 4) rfl rfl (.inl rfl)))))) (pt_fld (j := 6) (g := Cells.weights) (χ := (mList K tInt)) (fun d x => { d with weights := x }) (pt_at (χ := (m_Cells K)) (i := 0) rfl rfl (.inl rfl)) (T.cls_ 30 rfl) (T.noat 32 rfl) (fun _ => rfl) (fun _ _ => rfl)) (ev_var (i := 4) rfl rfl (.inl rfl)) fun b5 self6 => (bl_nil (.eq (.eq (.eq (.eq (.any (.any .nil)))))) rfl)) (bl_nil (.eq (.eq (.eq (.eq (.any (.any .nil)))))) rfl)) (bl_nil (.eq (.eq (.eq (.eq (.any (.any .nil)))))) rfl)))))) fun s1 => (bl_frz (i := 3) rfl (bl_ret (g := fun y => (s1.1, y)) (fun _ => rfl) (retM rfl) (ev_var (i := 3) rfl rfl (.inl rfl)))))))
theorem D_Cells_arrive {P : Program} {w : World} {K : PySem.W.Frag} {mg : Str → Option Value} {base : Heap} (T : Txt K mg) : Mth P w K mg base (He.ga K "Cells") "arrive" 2 [] (spM (m_Cells K) (tCons tInt (tOne (tList K tInt))) (fun g p => Cells_arrive g p.1 p.2) (tList K tInt)) := by
  obtain ⟨fd, F⟩ := T.def_ 15 (d := d_Cells_arrive) rfl
  exact ⟨_, fd, ["self", "tick", "arriving"], [], (T.cls_ 30 rfl), (T.meth 66 rfl), (F.bindsN fun _ _ _ _ _ _ us hl => match us, hl with | [_, _, _], _ => rfl), .nil, ok_Cells_arrive T F⟩
theorem sc_p_step : FnScope ["neuron", "potential", "rest", "incoming"] ["neuron", "potential", "rest", "incoming"] (defScope s_p_step) := ⟨rfl, rfl, rfl, by decide +kernel, rfl, by decide +kernel, by decide +kernel⟩
theorem ok_p_step {P : Program} {w : World} {K : PySem.W.Frag} {mg : Str → Option Value} {base : Heap} (T : Txt K mg) {f : Addr} {fd : FuncData} (F : FunD K "step" "step" (defArgs s_p_step) (defBody s_p_step) (defScope s_p_step) [] [] f fd) : FnOk P w K mg base CX0 1 f fd ["neuron", "potential", "rest", "incoming"] (spF (tCons (t_Neuron K) (tCons tInt (tCons tInt (tOne tInt)))) (fun p => p_step p.1 p.2.1 p.2.2.1 p.2.2.2) (tTup K (tCons tInt (tCons tInt (tOne tBool))))) :=
  okF F sc_p_step rfl (fun cdv A outer s H E hr q => 
   (bl_if (Γj := fun (s1 : Int) => [.val ((t_Neuron K).P q.1), .val (tInt.P s1), .val (tInt.P q.2.2.1), .val (tInt.P q.2.2.2)]) (et_cmp (ec_op oc_gt (ev_fld (f_Neuron_leak T) (ev_var (i := 0) rfl rfl (.inl rfl))) ev_int)) (bl_aug (i := 1) sc_p_step.nd rfl (.inl rfl) rfl oi_sub (ev_op ot_shr (ev_var (i := 1) rfl rfl (.inl rfl)) (ev_fld (f_Neuron_leak T) (ev_var (i := 0) rfl rfl (.inl rfl)))) fun potential => (bl_nil (.eq (.eq (.eq (.eq .nil)))) rfl)) (bl_nil (.eq (.eq (.eq (.eq .nil)))) rfl) fun s1 => (bl_asg (i := 1) sc_p_step.nd rfl (.inl rfl) (ev_bi (bi_max2 rfl) rfl (T.free 42 rfl) (ea_cons (ev_fld (f_Neuron_floor T) (ev_var (i := 0) rfl rfl (.inl rfl))) (ea_one (ev_op ot_add (ev_var (i := 1) rfl rfl (.inl rfl)) (ev_var (i := 3) rfl rfl (.inl rfl)))))) fun potential => (bl_ifx (et_cmp (ec_op oc_gt (ev_var (i := 2) rfl rfl (.inl rfl)) ev_int)) (bl_retF (fun _ => rfl) (ev_tup (ea_cons (ev_var (i := 1) rfl rfl (.inl rfl)) (ea_cons (ev_op ot_sub (ev_var (i := 2) rfl rfl (.inl rfl)) ev_int) (ea_one ev_bl))) (Nat.le_of_ble_eq_true rfl))) (bl_ifx (et_cmp (ec_op oc_lt (ev_var (i := 1) rfl rfl (.inl rfl)) (ev_fld (f_Neuron_threshold T) (ev_var (i := 0) rfl rfl (.inl rfl))))) (bl_retF (fun _ => rfl) (ev_tup (ea_cons (ev_var (i := 1) rfl rfl (.inl rfl)) (ea_cons ev_int (ea_one ev_bl))) (Nat.le_of_ble_eq_true rfl))) (bl_ifx (et_val (ev_fld (f_Neuron_subtract T) (ev_var (i := 0) rfl rfl (.inl rfl)))) (bl_retF (fun _ => rfl) (ev_tup (ea_cons (ev_op ot_sub (ev_var (i := 1) rfl rfl (.inl rfl)) (ev_fld (f_Neuron_threshold T) (ev_var (i := 0) rfl rfl (.inl rfl)))) (ea_cons (ev_fld (f_Neuron_refractory T) (ev_var (i := 0) rfl rfl (.inl rfl))) (ea_one ev_bl))) (Nat.le_of_ble_eq_true rfl))) (bl_retF (fun _ => rfl) (ev_tup (ea_cons ev_int (ea_cons (ev_fld (f_Neuron_refractory T) (ev_var (i := 0) rfl rfl (.inl rfl))) (ea_one ev_bl))) (Nat.le_of_ble_eq_true rfl)))))))))
theorem D_p_step {P : Program} {w : World} {K : PySem.W.Frag} {mg : Str → Option Value} {base : Heap} (T : Txt K mg) : Dfn P w K mg base "step" 1 [] (spF (tCons (t_Neuron K) (tCons tInt (tCons tInt (tOne tInt)))) (fun p => p_step p.1 p.2.1 p.2.2.1 p.2.2.2) (tTup K (tCons tInt (tCons tInt (tOne tBool))))) := by
  obtain ⟨fd, F⟩ := T.def_ 16 (d := d_p_step) rfl
  exact ⟨_, fd, ["neuron", "potential", "rest", "incoming"], [], (T.glo 67 rfl), F.kp, (F.bindsN fun _ _ _ _ _ _ us hl => match us, hl with | [_, _, _, _], _ => rfl), .nil, ok_p_step T F⟩
theorem sc_Cells_fire : FnScope ["self", "sums", "fired", "n", "potential", "rest", "spikes"] ["self", "sums"] (defScope s_Cells_fire) := ⟨rfl, rfl, rfl, by decide +kernel, rfl, by decide +kernel, by decide +kernel⟩
theorem ok_Cells_fire {P : Program} {w : World} {K : PySem.W.Frag} {mg : Str → Option Value} {base : Heap} (T : Txt K mg) {f : Addr} {fd : FuncData} (F : FunD K "fire" "Cells.fire" (defArgs s_Cells_fire) (defBody s_Cells_fire) (defScope s_Cells_fire) [] [] f fd) : FnOk P w K mg base CX0 2 f fd ["self", "sums"] (spM (m_Cells K) (tOne (tList K tInt)) (fun g p => Cells_fire g p) (tList K tInt)) :=
  okM F sc_Cells_fire rfl (fun cdv A outer s H E hr g q u => 
   (bl_asgO (μ := (mList K tInt)) (i := 2) sc_Cells_fire.nd rfl (.inl rfl) (Nat.le_of_ble_eq_true rfl) (eo_lst (τ := tInt) el_nil) fun fired => (bl_for (Γl := fun (ls1 : Cells × (List Int)) => [.own ((m_Cells K ls1.1).at u), .val ((tList K tInt).P q), .own ((mList K tInt ls1.2)), .any, .any, .any, .any]) (f := (fun (ls1 : Cells × (List Int)) lx1 => Cells_fire_b1 q ls1.1 ls1.2 lx1)) PassesOwn.never rfl (pim_range1 rfl (T.free 26 rfl) (ev_bi bi_len rfl (T.free 0 rfl) (ea_one (ev_pfld (j := 0) (h := Cells.neurons) (pt_at (χ := (m_Cells K)) (i := 0) rfl rfl (.inl rfl)) (T.cls_ 30 rfl) (T.noat 38 rfl))))) (pgm_name (i := 3) sc_Cells_fire.nd rfl (.inl rfl)) (.eq (.eq (.eq (.eq (.eq (.eq (.eq .nil))))))) (fun ls1 lx1 => (bl_tup (ev_call (D_p_step T) (hr.mono (by decide)) rfl (ea_cons (ev_ix (ev_pfld (j := 0) (h := Cells.neurons) (pt_at (χ := (m_Cells K)) (i := 0) rfl rfl (.inl rfl)) (T.cls_ 30 rfl) (T.noat 38 rfl)) (ev_var (i := 3) rfl rfl (.inl rfl))) (ea_cons (ev_pix (pt_fld (j := 3) (g := Cells.potentials) (χ := (mList K tInt)) (fun d x => { d with potentials := x }) (pt_at (χ := (m_Cells K)) (i := 0) rfl rfl (.inl rfl)) (T.cls_ 30 rfl) (T.noat 35 rfl) (fun _ => rfl) (fun _ _ => rfl)) (ev_var (i := 3) rfl rfl (.inl rfl))) (ea_cons (ev_pix (pt_fld (j := 4) (g := Cells.rests) (χ := (mList K tInt)) (fun d x => { d with rests := x }) (pt_at (χ := (m_Cells K)) (i := 0) rfl rfl (.inl rfl)) (T.cls_ 30 rfl) (T.noat 34 rfl) (fun _ => rfl) (fun _ _ => rfl)) (ev_var (i := 3) rfl rfl (.inl rfl))) (ea_one (ev_ix (ev_var (i := 1) rfl rfl (.inl rfl)) (ev_var (i := 3) rfl rfl (.inl rfl)))))))) (pgm_tup rfl (pgs_con (pgm_name (i := 4) sc_Cells_fire.nd rfl (.inl rfl)) (pgs_con (pgm_name (i := 5) sc_Cells_fire.nd rfl (.inl rfl)) (pgs_one (pgm_name (i := 6) sc_Cells_fire.nd rfl (.inl rfl)))))) fun z => (bl_setI (ev_var (i := 4) rfl rfl (.inl rfl)) (pt_fld (j := 3) (g := Cells.potentials) (χ := (mList K tInt)) (fun d x => { d with potentials := x }) (pt_at (χ := (m_Cells K)) (i := 0) rfl rfl (.inl rfl)) (T.cls_ 30 rfl) (T.noat 35 rfl) (fun _ => rfl) (fun _ _ => rfl)) (ev_var (i := 3) rfl rfl (.inl rfl)) fun b1 self2 => (bl_setI (ev_var (i := 5) rfl rfl (.inl rfl)) (pt_fld (j := 4) (g := Cells.rests) (χ := (mList K tInt)) (fun d x => { d with rests := x }) (pt_at (χ := (m_Cells K)) (i := 0) rfl rfl (.inl rfl)) (T.cls_ 30 rfl) (T.noat 34 rfl) (fun _ => rfl) (fun _ _ => rfl)) (ev_var (i := 3) rfl rfl (.inl rfl)) fun b3 self4 => (bl_ifl (et_val (ev_var (i := 6) rfl rfl (.inl rfl))) (bl_app (pt_var (χ := (mList K tInt)) (i := 2) rfl rfl (.inl rfl)) (ev_var (i := 3) rfl rfl (.inl rfl)) fun b5 fired6 => (bl_nil (.eq (.eq (.eq (.any (.any (.any (.any .nil))))))) rfl)) (bl_nil (.eq (.eq (.eq (.any (.any (.any (.any .nil))))))) rfl)))))) fun s1 => (bl_frz (i := 2) rfl (bl_ret (g := fun y => (s1.1, y)) (fun _ => rfl) (retM rfl) (ev_var (i := 2) rfl rfl (.inl rfl)))))))
theorem D_Cells_fire {P : Program} {w : World} {K : PySem.W.Frag} {mg : Str → Option Value} {base : Heap} (T : Txt K mg) : Mth P w K mg base (He.ga K "Cells") "fire" 2 [] (spM (m_Cells K) (tOne (tList K tInt)) (fun g p => Cells_fire g p) (tList K tInt)) := by
  obtain ⟨fd, F⟩ := T.def_ 17 (d := d_Cells_fire) rfl
  exact ⟨_, fd, ["self", "sums"], [], (T.cls_ 30 rfl), (T.meth 68 rfl), (F.bindsN fun _ _ _ _ _ _ us hl => match us, hl with | [_, _], _ => rfl), .nil, ok_Cells_fire T F⟩
theorem sc_p_potentiated : FnScope ["rule", "weight"] ["rule", "weight"] (defScope s_p_potentiated) := ⟨rfl, rfl, rfl, by decide +kernel, rfl, by decide +kernel, by decide +kernel⟩
theorem ok_p_potentiated {P : Program} {w : World} {K : PySem.W.Frag} {mg : Str → Option Value} {base : Heap} (T : Txt K mg) {f : Addr} {fd : FuncData} (F : FunD K "potentiated" "potentiated" (defArgs s_p_potentiated) (defBody s_p_potentiated) (defScope s_p_potentiated) [] [] f fd) : FnOk P w K mg base CX0 1 f fd ["rule", "weight"] (spF (tCons (t_Rule K) (tOne tInt)) (fun p => p_potentiated p.1 p.2) tInt) :=
  okF F sc_p_potentiated rfl (fun cdv A outer s H E hr q => 
   (bl_retF (fun _ => rfl) (ev_bi (bi_min2 rfl) rfl (T.free 27 rfl) (ea_cons (ev_fld (f_Rule_most T) (ev_var (i := 0) rfl rfl (.inl rfl))) (ea_one (ev_op ot_add (ev_var (i := 1) rfl rfl (.inl rfl)) (ev_fld (f_Rule_gain T) (ev_var (i := 0) rfl rfl (.inl rfl)))))))))
theorem D_p_potentiated {P : Program} {w : World} {K : PySem.W.Frag} {mg : Str → Option Value} {base : Heap} (T : Txt K mg) : Dfn P w K mg base "potentiated" 1 [] (spF (tCons (t_Rule K) (tOne tInt)) (fun p => p_potentiated p.1 p.2) tInt) := by
  obtain ⟨fd, F⟩ := T.def_ 18 (d := d_p_potentiated) rfl
  exact ⟨_, fd, ["rule", "weight"], [], (T.glo 69 rfl), F.kp, (F.bindsN fun _ _ _ _ _ _ us hl => match us, hl with | [_, _], _ => rfl), .nil, ok_p_potentiated T F⟩
theorem sc_Cells_learn : FnScope ["self", "tick", "fired", "n", "k", "synapse"] ["self", "tick", "fired"] (defScope s_Cells_learn) := ⟨rfl, rfl, rfl, by decide +kernel, rfl, by decide +kernel, by decide +kernel⟩
theorem ok_Cells_learn {P : Program} {w : World} {K : PySem.W.Frag} {mg : Str → Option Value} {base : Heap} (T : Txt K mg) {f : Addr} {fd : FuncData} (F : FunD K "learn" "Cells.learn" (defArgs s_Cells_learn) (defBody s_Cells_learn) (defScope s_Cells_learn) [] [] f fd) : FnOk P w K mg base CX0 2 f fd ["self", "tick", "fired"] (spM (m_Cells K) (tCons tInt (tOne (tList K tInt))) (fun g p => Cells_learn g p.1 p.2) tNone) :=
  okM F sc_Cells_learn rfl (fun cdv A outer s H E hr g q u => 
   (bl_for (Γl := fun (ls1 : Cells) => [.own ((m_Cells K ls1).at u), .val (tInt.P q.1), .val ((tList K tInt).P q.2), .any, .any, .any]) (f := (fun (ls1 : Cells) lx1 => Cells_learn_b1 q.1 ls1 lx1)) PassesOwn.never rfl (pim_list (ev_var (i := 2) rfl rfl (.inl rfl))) (pgm_name (i := 3) sc_Cells_learn.nd rfl (.inl rfl)) (.eq (.eq (.eq (.eq (.eq (.eq .nil)))))) (fun ls1 lx1 => (bl_setI (ev_opt (ev_var (i := 1) rfl rfl (.inl rfl))) (pt_fld (j := 5) (g := Cells.last_spikes) (χ := (mList K (tOpt tInt))) (fun d x => { d with last_spikes := x }) (pt_at (χ := (m_Cells K)) (i := 0) rfl rfl (.inl rfl)) (T.cls_ 30 rfl) (T.noat 33 rfl) (fun _ => rfl) (fun _ _ => rfl)) (ev_var (i := 3) rfl rfl (.inl rfl)) fun b1 self2 => (bl_nil (.eq (.eq (.eq (.any (.eq (.eq .nil)))))) rfl))) fun s1 => (bl_ifx (et_cmp (ec_isN (ev_pfld (j := 2) (h := Cells.rule) (pt_at (χ := (m_Cells K)) (i := 0) rfl rfl (.inl rfl)) (T.cls_ 30 rfl) (T.noat 36 rfl)))) (bl_retN (o := (s1, ())) rfl (endM rfl)) (bl_for (Γl := fun (ls2 : Cells) => [.own ((m_Cells K ls2).at u), .val (tInt.P q.1), .val ((tList K tInt).P q.2), .any, .any, .any]) (f := (fun (ls2 : Cells) lx2 => Cells_learn_b2 q.1 q.2 ls2 lx2)) PassesOwn.never rfl (pim_range1 rfl (T.free 26 rfl) (ev_bi bi_len rfl (T.free 0 rfl) (ea_one (ev_pfld (j := 1) (h := Cells.synapses) (pt_at (χ := (m_Cells K)) (i := 0) rfl rfl (.inl rfl)) (T.cls_ 30 rfl) (T.noat 37 rfl))))) (pgm_name (i := 4) sc_Cells_learn.nd rfl (.inl rfl)) (.eq (.eq (.eq (.eq (.eq (.eq .nil)))))) (fun ls2 lx2 => (bl_asg (i := 5) sc_Cells_learn.nd rfl (.inl rfl) (ev_ix (ev_pfld (j := 1) (h := Cells.synapses) (pt_at (χ := (m_Cells K)) (i := 0) rfl rfl (.inl rfl)) (T.cls_ 30 rfl) (T.noat 37 rfl)) (ev_var (i := 4) rfl rfl (.inl rfl))) fun synapse => (bl_ifl (et_w (ew_and (et_val (ev_fld (f_Synapse_plastic T) (ev_var (i := 5) rfl rfl (.inl rfl)))) (ew_and1 (et_cmp (ec_op (oc_inD (Room.u65 hr) (Nat.le_of_ble_eq_true rfl)) (ev_fld (f_Synapse_target T) (ev_var (i := 5) rfl rfl (.inl rfl))) (ev_var (i := 2) rfl rfl (.inl rfl))))))) (bl_ifl (et_val (ev_call (D_p_recent T) (hr.mono (by decide)) rfl (ea_cons (ev_get (ev_pfld (j := 2) (h := Cells.rule) (pt_at (χ := (m_Cells K)) (i := 0) rfl rfl (.inl rfl)) (T.cls_ 30 rfl) (T.noat 36 rfl))) (ea_cons (ev_pix (pt_fld (j := 7) (g := Cells.last_arrivals) (χ := (mList K (tOpt tInt))) (fun d x => { d with last_arrivals := x }) (pt_at (χ := (m_Cells K)) (i := 0) rfl rfl (.inl rfl)) (T.cls_ 30 rfl) (T.noat 31 rfl) (fun _ => rfl) (fun _ _ => rfl)) (ev_var (i := 4) rfl rfl (.inl rfl))) (ea_one (ev_var (i := 1) rfl rfl (.inl rfl))))))) (bl_setI (ev_call (D_p_potentiated T) (hr.mono (by decide)) rfl (ea_cons (ev_get (ev_pfld (j := 2) (h := Cells.rule) (pt_at (χ := (m_Cells K)) (i := 0) rfl rfl (.inl rfl)) (T.cls_ 30 rfl) (T.noat 36 rfl))) (ea_one (ev_pix (pt_fld (j := 6) (g := Cells.weights) (χ := (mList K tInt)) (fun d x => { d with weights := x }) (pt_at (χ := (m_Cells K)) (i := 0) rfl rfl (.inl rfl)) (T.cls_ 30 rfl) (T.noat 32 rfl) (fun _ => rfl) (fun _ _ => rfl)) (ev_var (i := 4) rfl rfl (.inl rfl)))))) (pt_fld (j := 6) (g := Cells.weights) (χ := (mList K tInt)) (fun d x => { d with weights := x }) (pt_at (χ := (m_Cells K)) (i := 0) rfl rfl (.inl rfl)) (T.cls_ 30 rfl) (T.noat 32 rfl) (fun _ => rfl) (fun _ _ => rfl)) (ev_var (i := 4) rfl rfl (.inl rfl)) fun b3 self4 => (bl_nil (.eq (.eq (.eq (.eq (.any (.any .nil)))))) rfl)) (bl_nil (.eq (.eq (.eq (.eq (.any (.any .nil)))))) rfl)) (bl_nil (.eq (.eq (.eq (.eq (.any (.any .nil)))))) rfl)))) fun s2 => (bl_end rfl (endM rfl))))))
theorem D_Cells_learn {P : Program} {w : World} {K : PySem.W.Frag} {mg : Str → Option Value} {base : Heap} (T : Txt K mg) : Mth P w K mg base (He.ga K "Cells") "learn" 2 [] (spM (m_Cells K) (tCons tInt (tOne (tList K tInt))) (fun g p => Cells_learn g p.1 p.2) tNone) := by
  obtain ⟨fd, F⟩ := T.def_ 19 (d := d_Cells_learn) rfl
  exact ⟨_, fd, ["self", "tick", "fired"], [], (T.cls_ 30 rfl), (T.meth 70 rfl), (F.bindsN fun _ _ _ _ _ _ us hl => match us, hl with | [_, _, _], _ => rfl), .nil, ok_Cells_learn T F⟩
theorem sc_Cells_tick : FnScope ["self", "tick", "arriving", "sums", "fired"] ["self", "tick", "arriving"] (defScope s_Cells_tick) := ⟨rfl, rfl, rfl, by decide +kernel, rfl, by decide +kernel, by decide +kernel⟩
theorem ok_Cells_tick {P : Program} {w : World} {K : PySem.W.Frag} {mg : Str → Option Value} {base : Heap} (T : Txt K mg) {f : Addr} {fd : FuncData} (F : FunD K "tick" "Cells.tick" (defArgs s_Cells_tick) (defBody s_Cells_tick) (defScope s_Cells_tick) [] [] f fd) : FnOk P w K mg base CX0 3 f fd ["self", "tick", "arriving"] (spM (m_Cells K) (tCons tInt (tOne (tList K tInt))) (fun g p => Cells_tick g p.1 p.2) (tList K tInt)) :=
  okM F sc_Cells_tick rfl (fun cdv A outer s H E hr g q u => 
   (bl_asgF (i := 3) sc_Cells_tick.nd rfl (.inl rfl) (ef_meth (D_Cells_arrive T) (isInO (by decide +kernel)) (hr.mono (by decide)) (pt_at (χ := (m_Cells K)) (i := 0) rfl rfl (.inl rfl)) (ea_cons (ev_var (i := 1) rfl rfl (.inl rfl)) (ea_one (ev_var (i := 2) rfl rfl (.inl rfl))))) fun r1 => (bl_asgF (i := 4) sc_Cells_tick.nd rfl (.inl rfl) (ef_meth (D_Cells_fire T) (isInO (by decide +kernel)) (hr.mono (by decide)) (pt_at (χ := (m_Cells K)) (i := 0) rfl rfl (.inl rfl)) (ea_one (ev_var (i := 3) rfl rfl (.inl rfl)))) fun r2 => (bl_exprF (ef_meth (D_Cells_learn T) (isInO (by decide +kernel)) (hr.mono (by decide)) (pt_at (χ := (m_Cells K)) (i := 0) rfl rfl (.inl rfl)) (ea_cons (ev_var (i := 1) rfl rfl (.inl rfl)) (ea_one (ev_var (i := 4) rfl rfl (.inl rfl))))) fun r3 => (bl_ret (g := fun y => (r3.2.1, y)) (fun _ => rfl) (retM rfl) (ev_var (i := 4) rfl rfl (.inl rfl)))))))
theorem D_Cells_tick {P : Program} {w : World} {K : PySem.W.Frag} {mg : Str → Option Value} {base : Heap} (T : Txt K mg) : Mth P w K mg base (He.ga K "Cells") "tick" 3 [] (spM (m_Cells K) (tCons tInt (tOne (tList K tInt))) (fun g p => Cells_tick g p.1 p.2) (tList K tInt)) := by
  obtain ⟨fd, F⟩ := T.def_ 20 (d := d_Cells_tick) rfl
  exact ⟨_, fd, ["self", "tick", "arriving"], [], (T.cls_ 30 rfl), (T.meth 71 rfl), (F.bindsN fun _ _ _ _ _ _ us hl => match us, hl with | [_, _, _], _ => rfl), .nil, ok_Cells_tick T F⟩
theorem sc_p_run : FnScope ["network", "stimuli", "cells", "history", "spikes", "tick", "arriving", "k", "fired", "synapse", "n"] ["network", "stimuli"] (defScope s_p_run) := ⟨rfl, rfl, rfl, by decide +kernel, rfl, by decide +kernel, by decide +kernel⟩
theorem ok_p_run {P : Program} {w : World} {K : PySem.W.Frag} {mg : Str → Option Value} {base : Heap} (T : Txt K mg) {f : Addr} {fd : FuncData} (F : FunD K "run" "run" (defArgs s_p_run) (defBody s_p_run) (defScope s_p_run) [] [] f fd) : FnOk P w K mg base CX0 4 f fd ["network", "stimuli"] (spO (tCons (t_Network K) (tOne (tList K (tList K tInt)))) (fun p => p_run p.1 p.2) (m_Run K)) :=
  okO F sc_p_run rfl (fun cdv A outer s H E hr q => 
   (bl_asgO (μ := (m_Cells K)) (i := 2) sc_p_run.nd rfl (.inl rfl) (Nat.le_of_ble_eq_true rfl) (eo_mk (fun p => p) (D_Cells_init T) (hr.mono (by decide)) rfl (ea_cons (ev_fld (f_Network_neurons T) (ev_var (i := 0) rfl rfl (.inr (.inl rfl)))) (ea_cons (ev_fld (f_Network_synapses T) (ev_var (i := 0) rfl rfl (.inr (.inl rfl)))) (ea_one (ev_fld (f_Network_rule T) (ev_var (i := 0) rfl rfl (.inr (.inl rfl))))))) (fun x vs B r => by rw [List.append_nil]; exact r)) fun cells => (bl_asgO (μ := (mList K (tList K tInt))) (i := 3) sc_p_run.nd rfl (.inl rfl) (Nat.le_of_ble_eq_true rfl) (eo_lst (τ := (tList K tInt)) el_nil) fun history => (bl_asgO (μ := (mList K (tList K tInt))) (i := 4) sc_p_run.nd rfl (.inl rfl) (Nat.le_of_ble_eq_true rfl) (eo_lst (τ := (tList K tInt)) el_nil) fun spikes => (bl_for (Γl := fun (ls1 : Cells × (List (List Int)) × (List (List Int))) => [.val ((t_Network K).P q.1), .val ((tList K (tList K tInt)).P q.2), .own ((m_Cells K ls1.1)), .own ((mList K (tList K tInt) ls1.2.1)), .own ((mList K (tList K tInt) ls1.2.2)), .any, .any, .any, .any, .any, .any]) (f := (fun (ls1 : Cells × (List (List Int)) × (List (List Int))) lx1 => p_run_b1 q.1 q.2 ls1.1 ls1.2.1 ls1.2.2 lx1)) PassesOwn.never rfl (pim_range1 rfl (T.free 26 rfl) (ev_bi bi_len rfl (T.free 0 rfl) (ea_one (ev_var (i := 1) rfl rfl (.inl rfl))))) (pgm_name (i := 5) sc_p_run.nd rfl (.inl rfl)) (.eq (.eq (.eq (.eq (.eq (.eq (.eq (.eq (.eq (.eq (.eq .nil))))))))))) (fun ls1 lx1 => (bl_asgO (μ := (mList K tInt)) (i := 6) sc_p_run.nd rfl (.inl rfl) (Nat.le_of_ble_eq_true rfl) (eo_lst (τ := tInt) el_nil) fun arriving => (bl_for (Γl := fun (ls2 : (List Int)) => [.val ((t_Network K).P q.1), .val ((tList K (tList K tInt)).P q.2), .own ((m_Cells K ls1.1)), .own ((mList K (tList K tInt) ls1.2.1)), .own ((mList K (tList K tInt) ls1.2.2)), .val (tInt.P lx1), .own ((mList K tInt ls2)), .any, .any, .any, .any]) (f := (fun (ls2 : (List Int)) lx2 => p_run_b2 q.1 ls1.2.1 lx1 ls2 lx2)) PassesOwn.never rfl (pim_range1 rfl (T.free 26 rfl) (ev_bi bi_len rfl (T.free 0 rfl) (ea_one (ev_fld (f_Network_synapses T) (ev_var (i := 0) rfl rfl (.inr (.inl rfl))))))) (pgm_name (i := 7) sc_p_run.nd rfl (.inl rfl)) (.eq (.eq (.eq (.eq (.eq (.eq (.eq (.eq (.eq (.eq (.eq .nil))))))))))) (fun ls2 lx2 => (bl_asg (i := 9) sc_p_run.nd rfl (.inl rfl) (ev_ix (ev_fld (f_Network_synapses T) (ev_var (i := 0) rfl rfl (.inr (.inl rfl)))) (ev_var (i := 7) rfl rfl (.inl rfl))) fun synapse => (bl_ifl (et_w (ew_and (et_cmp (ec_op oc_le (ev_fld (f_Synapse_delay T) (ev_var (i := 9) rfl rfl (.inl rfl))) (ev_var (i := 5) rfl rfl (.inl rfl)))) (ew_and1 (et_cmp (ec_op (oc_inD (Room.u65 hr) (Nat.le_of_ble_eq_true rfl)) (ev_fld (f_Synapse_source T) (ev_var (i := 9) rfl rfl (.inl rfl))) (ev_pix (pt_var (χ := (mList K (tList K tInt))) (i := 3) rfl rfl (.inl rfl)) (ev_op ot_sub (ev_var (i := 5) rfl rfl (.inl rfl)) (ev_fld (f_Synapse_delay T) (ev_var (i := 9) rfl rfl (.inl rfl)))))))))) (bl_app (pt_var (χ := (mList K tInt)) (i := 6) rfl rfl (.inl rfl)) (ev_var (i := 7) rfl rfl (.inl rfl)) fun b1 arriving2 => (bl_nil (.eq (.eq (.eq (.eq (.eq (.eq (.eq (.any (.eq (.any (.eq .nil))))))))))) rfl)) (bl_nil (.eq (.eq (.eq (.eq (.eq (.eq (.eq (.any (.eq (.any (.eq .nil))))))))))) rfl)))) fun s1 => (bl_frz (i := 6) rfl (bl_asgF (i := 8) sc_p_run.nd rfl (.inl rfl) (ef_meth (D_Cells_tick T) (isInO (by decide +kernel)) (hr.mono (by decide)) (pt_var (χ := (m_Cells K)) (i := 2) rfl rfl (.inl rfl)) (ea_cons (ev_var (i := 5) rfl rfl (.inl rfl)) (ea_one (ev_var (i := 6) rfl rfl (.inl rfl))))) fun r3 => (bl_app (pt_var (χ := (mList K (tList K tInt))) (i := 4) rfl rfl (.inl rfl)) (ev_var (i := 8) rfl rfl (.inl rfl)) fun b4 spikes5 => (bl_app (pt_var (χ := (mList K (tList K tInt))) (i := 3) rfl rfl (.inl rfl)) (ev_of_eo (eo_cat (ev_ix (ev_var (i := 1) rfl rfl (.inl rfl)) (ev_var (i := 5) rfl rfl (.inl rfl))) (ev_of_eo (eo_lc (own := [("n", 10)]) (ft := (fun _ => some true)) (fe := (fun n => (o2 (fun x y => some (x + y)) (o1 Network.inputs (some q.1)) (some n)))) rfl sc_p_run.nd (blkOk_by (by kernel_rfl)) (pim_list (ev_var (i := 8) rfl rfl (.inl rfl))) (pgc_name (i := 10) (fun _ _ _ _ _ => pg_name (i := 10) sc_p_run.nd rfl (Or.inl rfl))) (by decide) ptc_yes (fun _ _ _ _ _ n => (ev_op ot_add (ev_fld (f_Network_inputs T) (ev_var (i := 0) rfl rfl (.inr (.inl rfl)))) (ev_var (i := 10) rfl rfl (.inl rfl)))))))) fun b6 history7 => (bl_nil (.eq (.eq (.eq (.eq (.eq (.any (.any (.eq (.any (.eq (.eq .nil))))))))))) rfl)))))))) fun s2 => (bl_frz (i := 4) rfl (bl_frz (i := 2) rfl (bl_retO (fun _ => rfl) (eo_mk (fun p => p) (D_Run_init T) (hr.mono (by decide)) rfl (ea_cons (ev_var (i := 4) rfl rfl (.inl rfl)) (ea_one (ev_fld (f_Cells_weights T) (ev_var (i := 2) rfl rfl (.inl rfl))))) (fun x vs B r => by rw [List.append_nil]; exact r))))))))))
theorem D_p_run {P : Program} {w : World} {K : PySem.W.Frag} {mg : Str → Option Value} {base : Heap} (T : Txt K mg) : Dfn P w K mg base "run" 4 [] (spO (tCons (t_Network K) (tOne (tList K (tList K tInt)))) (fun p => p_run p.1 p.2) (m_Run K)) := by
  obtain ⟨fd, F⟩ := T.def_ 21 (d := d_p_run) rfl
  exact ⟨_, fd, ["network", "stimuli"], [], (T.glo 72 rfl), F.kp, (F.bindsN fun _ _ _ _ _ _ us hl => match us, hl with | [_, _], _ => rfl), .nil, ok_p_run T F⟩
theorem sc_p_advance : FnScope ["network", "state", "stimulus", "potentials", "rests", "fired", "n", "pending", "sources", "synapse", "after", "potential", "rest", "spikes", "sums", "neuron"] ["network", "state", "stimulus"] (defScope s_p_advance) := ⟨rfl, rfl, rfl, by decide +kernel, rfl, by decide +kernel, by decide +kernel⟩
theorem ok_p_advance {P : Program} {w : World} {K : PySem.W.Frag} {mg : Str → Option Value} {base : Heap} (T : Txt K mg) {f : Addr} {fd : FuncData} (F : FunD K "advance" "advance" (defArgs s_p_advance) (defBody s_p_advance) (defScope s_p_advance) [] [] f fd) : FnOk P w K mg base CX0 2 f fd ["network", "state", "stimulus"] (spF (tCons (t_Network K) (tCons (tTup K (tCons (tTups K tInt) (tCons (tTups K tInt) (tOne (tTups K (tTups K tInt)))))) (tOne (tList K tInt)))) (fun p => p_advance p.1 p.2.1 p.2.2) (tTup K (tCons (tTup K (tCons (tTups K tInt) (tCons (tTups K tInt) (tOne (tTups K (tTups K tInt)))))) (tOne (tList K tInt))))) :=
  okF F sc_p_advance rfl (fun cdv A outer s H E hr q => 
   (bl_asgO (μ := (mList K tInt)) (i := 3) sc_p_advance.nd rfl (.inl rfl) (Nat.le_of_ble_eq_true rfl) (eo_lst (τ := tInt) el_nil) fun potentials => (bl_asgO (μ := (mList K tInt)) (i := 4) sc_p_advance.nd rfl (.inl rfl) (Nat.le_of_ble_eq_true rfl) (eo_lst (τ := tInt) el_nil) fun rests => (bl_asgO (μ := (mList K tInt)) (i := 5) sc_p_advance.nd rfl (.inl rfl) (Nat.le_of_ble_eq_true rfl) (eo_lst (τ := tInt) el_nil) fun fired => (bl_for (Γl := fun (ls1 : (List Int) × (List Int) × (List Int)) => [.val ((t_Network K).P q.1), .val ((tTup K (tCons (tTups K tInt) (tCons (tTups K tInt) (tOne (tTups K (tTups K tInt)))))).P q.2.1), .val ((tList K tInt).P q.2.2), .own ((mList K tInt ls1.1)), .own ((mList K tInt ls1.2.1)), .own ((mList K tInt ls1.2.2)), .any, .any, .any, .any, .any, .any, .any, .any, .any, .any]) (f := (fun (ls1 : (List Int) × (List Int) × (List Int)) lx1 => p_advance_b1 q.1 q.2.1 ls1.1 ls1.2.1 ls1.2.2 lx1)) PassesOwn.never rfl (pim_range1 rfl (T.free 26 rfl) (ev_bi bi_len rfl (T.free 0 rfl) (ea_one (ev_fld (f_Network_neurons T) (ev_var (i := 0) rfl rfl (.inr (.inl rfl))))))) (pgm_name (i := 6) sc_p_advance.nd rfl (.inl rfl)) (.eq (.eq (.eq (.eq (.eq (.eq (.eq (.eq (.eq (.eq (.eq (.eq (.eq (.eq (.eq (.eq .nil)))))))))))))))) (fun ls1 lx1 => (bl_tup (ev_call (D_p_step T) (hr.mono (by decide)) rfl (ea_cons (ev_ix (ev_fld (f_Network_neurons T) (ev_var (i := 0) rfl rfl (.inr (.inl rfl)))) (ev_var (i := 6) rfl rfl (.inl rfl))) (ea_cons (ev_ixU (ev_ixT (j := 0) (g := fun (z : ((List Int) × (List Int) × (List (List Int)))) => z.1) at_zero (ev_var (i := 1) rfl rfl (.inl rfl))) (ev_var (i := 6) rfl rfl (.inl rfl))) (ea_cons (ev_ixU (ev_ixT (j := 1) (g := fun (z : ((List Int) × (List Int) × (List (List Int)))) => z.2.1) (at_succ at_zero) (ev_var (i := 1) rfl rfl (.inl rfl))) (ev_var (i := 6) rfl rfl (.inl rfl))) (ea_one (ev_ixU (ev_ixU (ev_ixT (j := 2) (g := fun (z : ((List Int) × (List Int) × (List (List Int)))) => z.2.2) (at_succ (at_succ at_one)) (ev_var (i := 1) rfl rfl (.inl rfl))) ev_int) (ev_var (i := 6) rfl rfl (.inl rfl)))))))) (pgm_tup rfl (pgs_con (pgm_name (i := 11) sc_p_advance.nd rfl (.inl rfl)) (pgs_con (pgm_name (i := 12) sc_p_advance.nd rfl (.inl rfl)) (pgs_one (pgm_name (i := 13) sc_p_advance.nd rfl (.inl rfl)))))) fun z => (bl_app (pt_var (χ := (mList K tInt)) (i := 3) rfl rfl (.inl rfl)) (ev_var (i := 11) rfl rfl (.inl rfl)) fun b1 potentials2 => (bl_app (pt_var (χ := (mList K tInt)) (i := 4) rfl rfl (.inl rfl)) (ev_var (i := 12) rfl rfl (.inl rfl)) fun b3 rests4 => (bl_ifl (et_val (ev_var (i := 13) rfl rfl (.inl rfl))) (bl_app (pt_var (χ := (mList K tInt)) (i := 5) rfl rfl (.inl rfl)) (ev_var (i := 6) rfl rfl (.inl rfl)) fun b5 fired6 => (bl_nil (.eq (.eq (.eq (.eq (.eq (.eq (.any (.eq (.eq (.eq (.eq (.any (.any (.any (.eq (.eq .nil)))))))))))))))) rfl)) (bl_nil (.eq (.eq (.eq (.eq (.eq (.eq (.any (.eq (.eq (.eq (.eq (.any (.any (.any (.eq (.eq .nil)))))))))))))))) rfl)))))) fun s1 => (bl_setLcO (χ := (mList K tInt)) (τe := (tList K tInt)) (i := 7) (own := [("sums", 14)]) (ft := (fun _ => some true)) (fe := (fun sums => ((some sums).bind (fun xs => some xs)))) (fun _ => rfl) rfl sc_p_advance.nd rfl rfl (Nat.le_of_ble_eq_true rfl) (sw_true rfl rfl rfl rfl) (blkOk_by (by kernel_rfl)) (pim_tups' (ev_sliceU (ev_ixT (j := 2) (g := fun (z : ((List Int) × (List Int) × (List (List Int)))) => z.2.2) (at_succ (at_succ at_one)) (ev_var (i := 1) rfl rfl (.inl rfl))) (po_s ev_int) po_n)) (pgc_name (i := 14) (fun _ _ _ _ _ => pg_name (i := 14) sc_p_advance.nd rfl (Or.inl rfl))) (by decide) ptc_yes (fun _ _ _ _ _ sums => (eo_bi bi_listT rfl (T.free 2 rfl) (ea_one (ev_var (i := 14) rfl rfl (.inl rfl))))) fun pending => (bl_appO (pt_var (χ := (mListO K (mList K tInt) (tList K tInt) (fun _ => rfl))) (i := 7) rfl rfl (.inl rfl)) (eo_lc (own := [("neuron", 15)]) (ft := (fun _ => some true)) (fe := (fun neuron => (some (0 : Int)))) rfl sc_p_advance.nd (blkOk_by (by kernel_rfl)) (pim_list (ev_fld (f_Network_neurons T) (ev_var (i := 0) rfl rfl (.inr (.inl rfl))))) (pgc_name (i := 15) (fun _ _ _ _ _ => pg_name (i := 15) sc_p_advance.nd rfl (Or.inl rfl))) (by decide) ptc_yes (fun _ _ _ _ _ neuron => ev_int)) fun b7 pending8 => (bl_frz (i := 5) rfl (bl_asg (i := 8) sc_p_advance.nd rfl (.inl rfl) (ev_of_eo (eo_cat (ev_var (i := 2) rfl rfl (.inl rfl)) (ev_of_eo (eo_lc (own := [("n", 6)]) (ft := (fun _ => some true)) (fe := (fun n => (o2 (fun x y => some (x + y)) (o1 Network.inputs (some q.1)) (some n)))) rfl sc_p_advance.nd (blkOk_by (by kernel_rfl)) (pim_list (ev_var (i := 5) rfl rfl (.inl rfl))) (pgc_name (i := 6) (fun _ _ _ _ _ => pg_name (i := 6) sc_p_advance.nd rfl (Or.inl rfl))) (by decide) ptc_yes (fun _ _ _ _ _ n => (ev_op ot_add (ev_fld (f_Network_inputs T) (ev_var (i := 0) rfl rfl (.inr (.inl rfl)))) (ev_var (i := 6) rfl rfl (.inl rfl)))))))) fun sources => (bl_for (Γl := fun (ls2 : (List (List Int))) => [.val ((t_Network K).P q.1), .val ((tTup K (tCons (tTups K tInt) (tCons (tTups K tInt) (tOne (tTups K (tTups K tInt)))))).P q.2.1), .val ((tList K tInt).P q.2.2), .own ((mList K tInt s1.1)), .own ((mList K tInt s1.2.1)), .val ((tList K tInt).P s1.2.2), .any, .own ((mListO K (mList K tInt) (tList K tInt) (fun _ => rfl) ls2)), .val ((tList K tInt).P sources), .any, .any, .any, .any, .any, .any, .any]) (f := (fun (ls2 : (List (List Int))) lx2 => p_advance_b2 sources ls2 lx2)) PassesOwn.never rfl (pim_list (ev_fld (f_Network_synapses T) (ev_var (i := 0) rfl rfl (.inr (.inl rfl))))) (pgm_name (i := 9) sc_p_advance.nd rfl (.inl rfl)) (.eq (.eq (.eq (.eq (.eq (.eq (.eq (.eq (.eq (.eq (.eq (.eq (.eq (.eq (.eq (.eq .nil)))))))))))))))) (fun ls2 lx2 => (bl_ifl (et_cmp (ec_op (oc_inD (Room.u65 hr) (Nat.le_of_ble_eq_true rfl)) (ev_fld (f_Synapse_source T) (ev_var (i := 9) rfl rfl (.inl rfl))) (ev_var (i := 8) rfl rfl (.inl rfl)))) (bl_augI (f := (fun i j => i + j)) ip_add (pt_idx (pt_var (χ := (mListO K (mList K tInt) (tList K tInt) (fun _ => rfl))) (i := 7) rfl rfl (.inl rfl)) (ev_op ot_sub (ev_fld (f_Synapse_delay T) (ev_var (i := 9) rfl rfl (.inl rfl))) ev_int)) (ev_fld (f_Synapse_target T) (ev_var (i := 9) rfl rfl (.inl rfl))) (ev_fld (f_Synapse_weight T) (ev_var (i := 9) rfl rfl (.inl rfl))) fun b9 pending10 => (bl_nil (.eq (.eq (.eq (.eq (.eq (.eq (.eq (.eq (.eq (.any (.eq (.eq (.eq (.eq (.eq (.eq .nil)))))))))))))))) rfl)) (bl_nil (.eq (.eq (.eq (.eq (.eq (.eq (.eq (.eq (.eq (.any (.eq (.eq (.eq (.eq (.eq (.eq .nil)))))))))))))))) rfl))) fun s2 => (bl_frz (i := 3) rfl (bl_frz (i := 4) rfl (bl_frz (i := 7) rfl (bl_asg (i := 10) sc_p_advance.nd rfl (.inl rfl) (ev_tup (ea_cons (ev_bi bi_tupL rfl (T.free 28 rfl) (ea_one (ev_var (i := 3) rfl rfl (.inl rfl)))) (ea_cons (ev_bi bi_tupL rfl (T.free 28 rfl) (ea_one (ev_var (i := 4) rfl rfl (.inl rfl)))) (ea_one (ev_bi bi_tupL rfl (T.free 28 rfl) (ea_one (ev_of_eo (eo_lc (own := [("sums", 14)]) (ft := (fun _ => some true)) (fe := (fun sums => ((some sums).bind (fun xs => some xs)))) rfl sc_p_advance.nd (blkOk_by (by kernel_rfl)) (pim_list (ev_var (i := 7) rfl rfl (.inl rfl))) (pgc_name (i := 14) (fun _ _ _ _ _ => pg_name (i := 14) sc_p_advance.nd rfl (Or.inl rfl))) (by decide) ptc_yes (fun _ _ _ _ _ sums => (ev_bi bi_tupL rfl (T.free 28 rfl) (ea_one (ev_var (i := 14) rfl rfl (.inl rfl)))))))))))) (Nat.le_of_ble_eq_true rfl)) fun after => (bl_retF (fun _ => rfl) (ev_tup (ea_cons (ev_var (i := 10) rfl rfl (.inl rfl)) (ea_one (ev_var (i := 5) rfl rfl (.inl rfl)))) (Nat.le_of_ble_eq_true rfl)))))))))))))))))
theorem D_p_advance {P : Program} {w : World} {K : PySem.W.Frag} {mg : Str → Option Value} {base : Heap} (T : Txt K mg) : Dfn P w K mg base "advance" 2 [] (spF (tCons (t_Network K) (tCons (tTup K (tCons (tTups K tInt) (tCons (tTups K tInt) (tOne (tTups K (tTups K tInt)))))) (tOne (tList K tInt)))) (fun p => p_advance p.1 p.2.1 p.2.2) (tTup K (tCons (tTup K (tCons (tTups K tInt) (tCons (tTups K tInt) (tOne (tTups K (tTups K tInt)))))) (tOne (tList K tInt))))) := by
  obtain ⟨fd, F⟩ := T.def_ 22 (d := d_p_advance) rfl
  exact ⟨_, fd, ["network", "state", "stimulus"], [], (T.glo 73 rfl), F.kp, (F.bindsN fun _ _ _ _ _ _ us hl => match us, hl with | [_, _, _], _ => rfl), .nil, ok_p_advance T F⟩
theorem sc_p_stimulus_of : FnScope ["network", "number", "k"] ["network", "number"] (defScope s_p_stimulus_of) := ⟨rfl, rfl, rfl, by decide +kernel, rfl, by decide +kernel, by decide +kernel⟩
theorem ok_p_stimulus_of {P : Program} {w : World} {K : PySem.W.Frag} {mg : Str → Option Value} {base : Heap} (T : Txt K mg) {f : Addr} {fd : FuncData} (F : FunD K "stimulus_of" "stimulus_of" (defArgs s_p_stimulus_of) (defBody s_p_stimulus_of) (defScope s_p_stimulus_of) [] [] f fd) : FnOk P w K mg base CX0 1 f fd ["network", "number"] (spF (tCons (t_Network K) (tOne tInt)) (fun p => p_stimulus_of p.1 p.2) (tList K tInt)) :=
  okF F sc_p_stimulus_of rfl (fun cdv A outer s H E hr q => 
   (bl_retF (fun _ => rfl) (ev_of_eo (eo_lc (own := [("k", 2)]) (ft := (fun k => (o2 (fun x y => some (decide (x = y))) (o2 (fun x y => some (Builtin.bitAnd x y)) (o2 shrG (some q.2) (some k)) (some (1 : Int))) (some (1 : Int))))) (fe := (fun k => (some k))) rfl sc_p_stimulus_of.nd (blkOk_by (by kernel_rfl)) (pim_range1 rfl (T.free 26 rfl) (ev_fld (f_Network_inputs T) (ev_var (i := 0) rfl rfl (.inl rfl)))) (pgc_name (i := 2) (fun _ _ _ _ _ => pg_name (i := 2) sc_p_stimulus_of.nd rfl (Or.inl rfl))) (by decide) (ptc_if (fun _ _ _ _ _ k => (et_cmp (ec_op oc_eq (ev_op ot_and (ev_op ot_shr (ev_var (i := 1) rfl rfl (.inr (.inl rfl))) (ev_var (i := 2) rfl rfl (.inl rfl))) ev_int) ev_int)))) (fun _ _ _ _ _ k => (ev_var (i := 2) rfl rfl (.inl rfl)))))))
theorem D_p_stimulus_of {P : Program} {w : World} {K : PySem.W.Frag} {mg : Str → Option Value} {base : Heap} (T : Txt K mg) : Dfn P w K mg base "stimulus_of" 1 [] (spF (tCons (t_Network K) (tOne tInt)) (fun p => p_stimulus_of p.1 p.2) (tList K tInt)) := by
  obtain ⟨fd, F⟩ := T.def_ 23 (d := d_p_stimulus_of) rfl
  exact ⟨_, fd, ["network", "number"], [], (T.glo 74 rfl), F.kp, (F.bindsN fun _ _ _ _ _ _ us hl => match us, hl with | [_, _], _ => rfl), .nil, ok_p_stimulus_of T F⟩
theorem sc_l_breaks : FnScope ["_law_claim", "_law_stimuli_here", "_law_spikes", "_law_t", "_law_start", "_law_k"] ["_law_claim", "_law_stimuli_here", "_law_spikes", "_law_t"] (defScope s_l_breaks) := ⟨rfl, rfl, rfl, by decide +kernel, rfl, by decide +kernel, by decide +kernel⟩
theorem ok_l_breaks {P : Program} {w : World} {K : PySem.W.Frag} {mg : Str → Option Value} {base : Heap} (T : Txt K mg) {f : Addr} {fd : FuncData} (F : FunD K "_law_breaks" "_law_breaks" (defArgs s_l_breaks) (defBody s_l_breaks) (defScope s_l_breaks) [] [] f fd) : FnOk P w K mg base CX0 1 f fd ["_law_claim", "_law_stimuli_here", "_law_spikes", "_law_t"] (spF (tCons (tTups K tSI) (tCons (tList K (tList K tInt)) (tCons (tList K (tList K tInt)) (tOne tInt)))) (fun p => l_breaks p.1 p.2.1 p.2.2.1 p.2.2.2) tBool) :=
  okF F sc_l_breaks rfl (fun cdv A outer s H E hr q => 
   (bl_ifx (et_cmp (ec_op oc_eqS (ev_siS (ev_ixU (ev_var (i := 0) rfl rfl (.inl rfl)) ev_int)) ev_str)) (bl_retF (fun _ => rfl) (ev_cmp (ec_op (oc_inD (Room.u65 hr) (Nat.le_of_ble_eq_true rfl)) (ev_siI (ev_ixU (ev_var (i := 0) rfl rfl (.inl rfl)) ev_int)) (ev_ix (ev_var (i := 2) rfl rfl (.inl rfl)) (ev_var (i := 3) rfl rfl (.inl rfl)))))) (bl_ifx (et_cmp (ec_op oc_eqS (ev_siS (ev_ixU (ev_var (i := 0) rfl rfl (.inl rfl)) ev_int)) ev_str)) (bl_retF (fun _ => rfl) (ev_and (ev_cmp (ec_op (oc_inD (Room.u65 hr) (Nat.le_of_ble_eq_true rfl)) (ev_siI (ev_ixU (ev_var (i := 0) rfl rfl (.inl rfl)) ev_int)) (ev_ix (ev_var (i := 2) rfl rfl (.inl rfl)) (ev_var (i := 3) rfl rfl (.inl rfl))))) (ev_bool1 (ev_cmp (ec_op (oc_inD (Room.u65 hr) (Nat.le_of_ble_eq_true rfl)) (ev_siI (ev_ixU (ev_var (i := 0) rfl rfl (.inl rfl)) ev_int)) (ev_ix (ev_var (i := 2) rfl rfl (.inl rfl)) (ev_var (i := 3) rfl rfl (.inl rfl)))))))) (bl_asg (i := 4) sc_l_breaks.nd rfl (.inl rfl) (ev_op ot_sub (ev_var (i := 3) rfl rfl (.inl rfl)) (ev_siI (ev_ixU (ev_var (i := 0) rfl rfl (.inl rfl)) ev_int))) fun start => (bl_ifx (et_w (ew_or (et_cmp (ec_op oc_lt (ev_var (i := 4) rfl rfl (.inl rfl)) ev_int)) (ew_or1 (et_cmp (ec_op (oc_notInD (Room.u65 hr) (Nat.le_of_ble_eq_true rfl)) (ev_siI (ev_ixU (ev_var (i := 0) rfl rfl (.inl rfl)) ev_int)) (ev_ix (ev_var (i := 1) rfl rfl (.inl rfl)) (ev_var (i := 4) rfl rfl (.inl rfl)))))))) (bl_retF (fun _ => rfl) ev_bl) (bl_forx (Γl := fun (ls1 : Unit) => [.val ((tTups K tSI).P q.1), .val ((tList K (tList K tInt)).P q.2.1), .val ((tList K (tList K tInt)).P q.2.2.1), .val (tInt.P q.2.2.2), .val (tInt.P start), .any]) (f := (fun (ls1 : Unit) lx1 => l_breaks_b1 q.1 q.2.2.1  lx1)) (post := (fun r v B (_ : Hp) => tBool.rel r v B)) PassesOwn.never rfl (pim_range2 rfl (T.free 26 rfl) (ev_op ot_add (ev_var (i := 4) rfl rfl (.inl rfl)) ev_int) (ev_op ot_add (ev_var (i := 3) rfl rfl (.inl rfl)) ev_int)) (pgm_name (i := 5) sc_l_breaks.nd rfl (.inl rfl)) (.eq (.eq (.eq (.eq (.eq (.eq .nil)))))) (fun _ => rfl) (fun ls1 lx1 => (bl_ifl (et_cmp (ec_op (oc_inD (Room.u65 hr) (Nat.le_of_ble_eq_true rfl)) (ev_siI (ev_ixU (ev_var (i := 0) rfl rfl (.inl rfl)) ev_int)) (ev_ix (ev_var (i := 2) rfl rfl (.inl rfl)) (ev_var (i := 5) rfl rfl (.inl rfl))))) (bl_ret (g := Lp.rt) (fun _ => rfl) retP ev_bl) (bl_nil (.eq (.eq (.eq (.eq (.eq (.any .nil)))))) rfl))) fun s1 => (bl_retF (fun _ => rfl) ev_bl)))))))
theorem D_l_breaks {P : Program} {w : World} {K : PySem.W.Frag} {mg : Str → Option Value} {base : Heap} (T : Txt K mg) : Dfn P w K mg base "_law_breaks" 1 [] (spF (tCons (tTups K tSI) (tCons (tList K (tList K tInt)) (tCons (tList K (tList K tInt)) (tOne tInt)))) (fun p => l_breaks p.1 p.2.1 p.2.2.1 p.2.2.2) tBool) := by
  obtain ⟨fd, F⟩ := T.def_ 24 (d := d_l_breaks) rfl
  exact ⟨_, fd, ["_law_claim", "_law_stimuli_here", "_law_spikes", "_law_t"], [], (T.glo 75 rfl), F.kp, (F.bindsN fun _ _ _ _ _ _ us hl => match us, hl with | [_, _, _, _], _ => rfl), .nil, ok_l_breaks T F⟩
theorem sc_p_is_broken : FnScope ["claim", "watch", "spikes"] ["claim", "watch", "spikes"] (defScope s_p_is_broken) := ⟨rfl, rfl, rfl, by decide +kernel, rfl, by decide +kernel, by decide +kernel⟩
theorem ok_p_is_broken {P : Program} {w : World} {K : PySem.W.Frag} {mg : Str → Option Value} {base : Heap} (T : Txt K mg) {f : Addr} {fd : FuncData} (F : FunD K "is_broken" "is_broken" (defArgs s_p_is_broken) (defBody s_p_is_broken) (defScope s_p_is_broken) [] [] f fd) : FnOk P w K mg base CX0 1 f fd ["claim", "watch", "spikes"] (spF (tCons (tTups K tSI) (tCons tInt (tOne (tList K tInt)))) (fun p => p_is_broken p.1 p.2.1 p.2.2) tBool) :=
  okF F sc_p_is_broken rfl (fun cdv A outer s H E hr q => 
   (bl_ifx (et_cmp (ec_op oc_eqS (ev_siS (ev_ixU (ev_var (i := 0) rfl rfl (.inl rfl)) ev_int)) ev_str)) (bl_retF (fun _ => rfl) (ev_cmp (ec_op (oc_inD (Room.u65 hr) (Nat.le_of_ble_eq_true rfl)) (ev_siI (ev_ixU (ev_var (i := 0) rfl rfl (.inl rfl)) ev_int)) (ev_var (i := 2) rfl rfl (.inl rfl))))) (bl_ifx (et_cmp (ec_op oc_eqS (ev_siS (ev_ixU (ev_var (i := 0) rfl rfl (.inl rfl)) ev_int)) ev_str)) (bl_retF (fun _ => rfl) (ev_and (ev_cmp (ec_op (oc_inD (Room.u65 hr) (Nat.le_of_ble_eq_true rfl)) (ev_siI (ev_ixU (ev_var (i := 0) rfl rfl (.inl rfl)) ev_int)) (ev_var (i := 2) rfl rfl (.inl rfl)))) (ev_bool1 (ev_cmp (ec_op (oc_inD (Room.u65 hr) (Nat.le_of_ble_eq_true rfl)) (ev_siI (ev_ixU (ev_var (i := 0) rfl rfl (.inl rfl)) ev_int)) (ev_var (i := 2) rfl rfl (.inl rfl))))))) (bl_retF (fun _ => rfl) (ev_and (ev_cmp (ec_op oc_eq (ev_var (i := 1) rfl rfl (.inl rfl)) ev_int)) (ev_bool1 (ev_cmp (ec_op (oc_notInD (Room.u65 hr) (Nat.le_of_ble_eq_true rfl)) (ev_siI (ev_ixU (ev_var (i := 0) rfl rfl (.inl rfl)) ev_int)) (ev_var (i := 2) rfl rfl (.inl rfl))))))))))
theorem D_p_is_broken {P : Program} {w : World} {K : PySem.W.Frag} {mg : Str → Option Value} {base : Heap} (T : Txt K mg) : Dfn P w K mg base "is_broken" 1 [] (spF (tCons (tTups K tSI) (tCons tInt (tOne (tList K tInt)))) (fun p => p_is_broken p.1 p.2.1 p.2.2) tBool) := by
  obtain ⟨fd, F⟩ := T.def_ 25 (d := d_p_is_broken) rfl
  exact ⟨_, fd, ["claim", "watch", "spikes"], [], (T.glo 76 rfl), F.kp, (F.bindsN fun _ _ _ _ _ _ us hl => match us, hl with | [_, _, _], _ => rfl), .nil, ok_p_is_broken T F⟩
theorem sc_p_next_watch : FnScope ["claim", "watch", "stimulus", "spikes"] ["claim", "watch", "stimulus", "spikes"] (defScope s_p_next_watch) := ⟨rfl, rfl, rfl, by decide +kernel, rfl, by decide +kernel, by decide +kernel⟩
theorem ok_p_next_watch {P : Program} {w : World} {K : PySem.W.Frag} {mg : Str → Option Value} {base : Heap} (T : Txt K mg) {f : Addr} {fd : FuncData} (F : FunD K "next_watch" "next_watch" (defArgs s_p_next_watch) (defBody s_p_next_watch) (defScope s_p_next_watch) [] [] f fd) : FnOk P w K mg base CX0 1 f fd ["claim", "watch", "stimulus", "spikes"] (spF (tCons (tTups K tSI) (tCons tInt (tCons (tList K tInt) (tOne (tList K tInt))))) (fun p => p_next_watch p.1 p.2.1 p.2.2.1 p.2.2.2) tInt) :=
  okF F sc_p_next_watch rfl (fun cdv A outer s H E hr q => 
   (bl_ifx (et_cmp (ec_op oc_neS (ev_siS (ev_ixU (ev_var (i := 0) rfl rfl (.inl rfl)) ev_int)) ev_str)) (bl_retF (fun _ => rfl) ev_int) (bl_if (Γj := fun (s1 : Int) => [.val ((tTups K tSI).P q.1), .val (tInt.P s1), .val ((tList K tInt).P q.2.2.1), .val ((tList K tInt).P q.2.2.2)]) (et_cmp (ec_op oc_gt (ev_var (i := 1) rfl rfl (.inl rfl)) ev_int)) (bl_asg (i := 1) sc_p_next_watch.nd rfl (.inl rfl) (ev_ifE (et_cmp (ec_op (oc_inD (Room.u65 hr) (Nat.le_of_ble_eq_true rfl)) (ev_siI (ev_ixU (ev_var (i := 0) rfl rfl (.inl rfl)) ev_int)) (ev_var (i := 3) rfl rfl (.inl rfl)))) ev_int (ev_op ot_sub (ev_var (i := 1) rfl rfl (.inl rfl)) ev_int)) fun watch => (bl_nil (.eq (.eq (.eq (.eq .nil)))) rfl)) (bl_nil (.eq (.eq (.eq (.eq .nil)))) rfl) fun s1 => (bl_if (Γj := fun (s2 : Int) => [.val ((tTups K tSI).P q.1), .val (tInt.P s2), .val ((tList K tInt).P q.2.2.1), .val ((tList K tInt).P q.2.2.2)]) (et_w (ew_and (et_cmp (ec_op oc_eq (ev_var (i := 1) rfl rfl (.inl rfl)) ev_int)) (ew_and1 (et_cmp (ec_op (oc_inD (Room.u65 hr) (Nat.le_of_ble_eq_true rfl)) (ev_siI (ev_ixU (ev_var (i := 0) rfl rfl (.inl rfl)) ev_int)) (ev_var (i := 2) rfl rfl (.inl rfl))))))) (bl_asg (i := 1) sc_p_next_watch.nd rfl (.inl rfl) (ev_siI (ev_ixU (ev_var (i := 0) rfl rfl (.inl rfl)) ev_int)) fun watch => (bl_nil (.eq (.eq (.eq (.eq .nil)))) rfl)) (bl_nil (.eq (.eq (.eq (.eq .nil)))) rfl) fun s2 => (bl_retF (fun _ => rfl) (ev_var (i := 1) rfl rfl (.inl rfl)))))))
theorem D_p_next_watch {P : Program} {w : World} {K : PySem.W.Frag} {mg : Str → Option Value} {base : Heap} (T : Txt K mg) : Dfn P w K mg base "next_watch" 1 [] (spF (tCons (tTups K tSI) (tCons tInt (tCons (tList K tInt) (tOne (tList K tInt))))) (fun p => p_next_watch p.1 p.2.1 p.2.2.1 p.2.2.2) tInt) := by
  obtain ⟨fd, F⟩ := T.def_ 26 (d := d_p_next_watch) rfl
  exact ⟨_, fd, ["claim", "watch", "stimulus", "spikes"], [], (T.glo 77 rfl), F.kp, (F.bindsN fun _ _ _ _ _ _ us hl => match us, hl with | [_, _, _, _], _ => rfl), .nil, ok_p_next_watch T F⟩
theorem sc_law_m : FnScope ["_law_script", "_law_network_here", "_law_stimuli_here", "_law_spikes", "_law_zeros", "_law_state", "_law_claims_here", "_law_watches", "_law_broken", "_law_t", "_law_number", "_law_found", "_law_k", "_law_claim", "_law_due", "_law_told", "_law_n", "_law_j"] ["_law_script"] (defScope s_law_m) := ⟨rfl, rfl, rfl, by decide +kernel, rfl, by decide +kernel, by decide +kernel⟩
theorem ok_law_m {P : Program} {w : World} {K : PySem.W.Frag} {mg : Str → Option Value} {base : Heap} (T : Txt K mg) {f : Addr} {fd : FuncData} (F : FunD K "law" "law" (defArgs s_law_m) (defBody s_law_m) (defScope s_law_m) [] [] f fd) : FnOk P w K mg base CX0 5 f fd ["_law_script"] (spF (tOne (tScr K)) (fun p => law_m p) tBool) :=
  okF F sc_law_m rfl (fun cdv A outer s H E hr q => 
   (bl_asg (i := 1) sc_law_m.nd rfl (.inl rfl) (ev_of_eo (eo_call (D_l_network T) (hr.mono (by decide)) rfl (ea_cons (ev_var (i := 0) rfl rfl (.inl rfl)) (ea_one ev_bl)))) fun network_here => (bl_asg (i := 2) sc_law_m.nd rfl (.inl rfl) (ev_call (D_l_stimuli T) (hr.mono (by decide)) rfl (ea_cons (ev_var (i := 0) rfl rfl (.inl rfl)) (ea_one (ev_fld (f_Network_inputs T) (ev_var (i := 1) rfl rfl (.inl rfl)))))) fun stimuli_here => (bl_asg (i := 3) sc_law_m.nd rfl (.inl rfl) (ev_fld (f_Run_spikes T) (ev_of_eo (eo_call (D_p_run T) (hr.mono (by decide)) rfl (ea_cons (ev_var (i := 1) rfl rfl (.inl rfl)) (ea_one (ev_var (i := 2) rfl rfl (.inl rfl))))))) fun spikes => (bl_asg (i := 4) sc_law_m.nd rfl (.inr rfl) (ev_bi bi_tupL rfl (T.free 28 rfl) (ea_one (ev_of_eo (eo_lc (own := [("_law_n", 16)]) (ft := (fun _ => some true)) (fe := (fun n => (some (0 : Int)))) rfl sc_law_m.nd (blkOk_by (by kernel_rfl)) (pim_list (ev_fld (f_Network_neurons T) (ev_var (i := 1) rfl rfl (.inl rfl)))) (pgc_name (i := 16) (fun _ _ _ _ _ => pg_name (i := 16) sc_law_m.nd rfl (Or.inl rfl))) (by decide) ptc_yes (fun _ _ _ _ _ n => ev_int))))) fun zeros => (bl_asg (i := 5) sc_law_m.nd rfl (.inl rfl) (ev_call (D_p_initial_state T) (hr.mono (by decide)) rfl (ea_one (ev_var (i := 1) rfl rfl (.inl rfl)))) fun state => (bl_ifx (et_cmp (ec_op (oc_neD (Room.units hr) (Nat.le_of_ble_eq_true rfl)) (ev_var (i := 5) rfl rfl (.inl rfl)) (ev_tup (ea_cons (ev_var (i := 4) rfl rfl (.inr (.inl rfl))) (ea_cons (ev_var (i := 4) rfl rfl (.inr (.inl rfl))) (ea_one (ev_bi bi_tupL rfl (T.free 28 rfl) (ea_one (ev_of_eo (eo_lc (own := [("_law_k", 12)]) (ft := (fun _ => some true)) (fe := (fun k => (some zeros))) rfl sc_law_m.nd (blkOk_by (by kernel_rfl)) (pim_range1 rfl (T.free 26 rfl) ev_int) (pgc_name (i := 12) (fun _ _ _ _ _ => pg_name (i := 12) sc_law_m.nd rfl (Or.inl rfl))) (by decide) ptc_yes (fun _ _ _ _ _ k => (ev_var (i := 4) rfl rfl (.inr (.inl rfl))))))))))) (Nat.le_of_ble_eq_true rfl)))) (bl_retF (fun _ => rfl) ev_bl) (bl_asg (i := 6) sc_law_m.nd rfl (.inl rfl) (ev_call (D_l_claims T) (hr.mono (by decide)) rfl (ea_cons (ev_var (i := 0) rfl rfl (.inl rfl)) (ea_one (ev_var (i := 1) rfl rfl (.inl rfl))))) fun claims_here => (bl_setLc (i := 7) (own := [("_law_claim", 13)]) (ft := (fun _ => some true)) (fe := (fun claim => (some (0 : Int)))) rfl sc_law_m.nd rfl rfl (Nat.le_of_ble_eq_true rfl) (sw_true rfl rfl rfl rfl) (blkOk_by (by kernel_rfl)) (pim_list (ev_var (i := 6) rfl rfl (.inl rfl))) (pgc_name (i := 13) (fun _ _ _ _ _ => pg_name (i := 13) sc_law_m.nd rfl (Or.inl rfl))) (by decide) ptc_yes (fun _ _ _ _ _ claim => ev_int) fun watches => (bl_setLc (i := 8) (own := [("_law_claim", 13)]) (ft := (fun _ => some true)) (fe := (fun claim => (some false))) rfl sc_law_m.nd rfl rfl (Nat.le_of_ble_eq_true rfl) (sw_true rfl rfl rfl rfl) (blkOk_by (by kernel_rfl)) (pim_list (ev_var (i := 6) rfl rfl (.inl rfl))) (pgc_name (i := 13) (fun _ _ _ _ _ => pg_name (i := 13) sc_law_m.nd rfl (Or.inl rfl))) (by decide) ptc_yes (fun _ _ _ _ _ claim => ev_bl) fun broken => (bl_forx (Γl := fun (ls1 : ((List Int) × (List Int) × (List (List Int))) × (List Int) × (List Bool)) => [.val ((tScr K).P q), .val ((t_Network K).P network_here), .val ((tList K (tList K tInt)).P stimuli_here), .val ((tList K (tList K tInt)).P spikes), .val ((tTups K tInt).P zeros), .val ((tTup K (tCons (tTups K tInt) (tCons (tTups K tInt) (tOne (tTups K (tTups K tInt)))))).P ls1.1), .val ((tList K (tTups K tSI)).P claims_here), .own ((mList K tInt ls1.2.1)), .own ((mList K tBool ls1.2.2)), .any, .any, .any, .any, .any, .any, .any, .any, .any]) (f := (fun (ls1 : ((List Int) × (List Int) × (List (List Int))) × (List Int) × (List Bool)) lx1 => law_m_b1 network_here stimuli_here spikes claims_here ls1.1 ls1.2.1 ls1.2.2 lx1)) (post := (fun r v B (_ : Hp) => tBool.rel r v B)) PassesOwn.never rfl (pim_range1 rfl (T.free 26 rfl) (ev_bi bi_len rfl (T.free 0 rfl) (ea_one (ev_var (i := 2) rfl rfl (.inl rfl))))) (pgm_name (i := 9) sc_law_m.nd rfl (.inl rfl)) (.eq (.eq (.eq (.eq (.eq (.eq (.eq (.eq (.eq (.eq (.eq (.eq (.eq (.eq (.eq (.eq (.eq (.eq .nil)))))))))))))))))) (fun _ => rfl) (fun ls1 lx1 => (bl_asg (i := 11) sc_law_m.nd rfl (.inl rfl) (ev_call (D_p_advance T) (hr.mono (by decide)) rfl (ea_cons (ev_var (i := 1) rfl rfl (.inl rfl)) (ea_cons (ev_var (i := 5) rfl rfl (.inl rfl)) (ea_one (ev_of_eo (eo_bi bi_listL rfl (T.free 2 rfl) (ea_one (ev_ix (ev_var (i := 2) rfl rfl (.inl rfl)) (ev_var (i := 9) rfl rfl (.inl rfl)))))))))) fun found => (bl_ifx (et_w (ew_or (et_not (et_val (ev_isiT (T' := "tuple") (b := true) (by decide +kernel) (by decide +kernel) (T.free 28 rfl) rfl (T.free 43 rfl) rfl (ev_var (i := 11) rfl rfl (.inl rfl))))) (ew_or (et_cmp (ec_op (oc_neD (Room.units hr) (Nat.le_of_ble_eq_true rfl)) (ev_ixT (j := 1) (g := fun (z : (((List Int) × (List Int) × (List (List Int))) × (List Int))) => z.2) (at_succ at_one) (ev_var (i := 11) rfl rfl (.inl rfl))) (ev_ix (ev_var (i := 3) rfl rfl (.inl rfl)) (ev_var (i := 9) rfl rfl (.inl rfl))))) (ew_or1 (et_cmp (ec_op (oc_neD (Room.units hr) (Nat.le_of_ble_eq_true rfl)) (ev_call (D_p_advance T) (hr.mono (by decide)) rfl (ea_cons (ev_var (i := 1) rfl rfl (.inl rfl)) (ea_cons (ev_var (i := 5) rfl rfl (.inl rfl)) (ea_one (ev_ix (ev_var (i := 2) rfl rfl (.inl rfl)) (ev_var (i := 9) rfl rfl (.inl rfl))))))) (ev_var (i := 11) rfl rfl (.inl rfl)))))))) (bl_ret (g := Lp.rt) (fun _ => rfl) retP ev_bl) (bl_forx (Γl := fun (ls2 : (List Int) × (List Bool)) => [.val ((tScr K).P q), .val ((t_Network K).P network_here), .val ((tList K (tList K tInt)).P stimuli_here), .val ((tList K (tList K tInt)).P spikes), .val ((tTups K tInt).P zeros), .val ((tTup K (tCons (tTups K tInt) (tCons (tTups K tInt) (tOne (tTups K (tTups K tInt)))))).P ls1.1), .val ((tList K (tTups K tSI)).P claims_here), .own ((mList K tInt ls2.1)), .own ((mList K tBool ls2.2)), .val (tInt.P lx1), .any, .val ((tTup K (tCons (tTup K (tCons (tTups K tInt) (tCons (tTups K tInt) (tOne (tTups K (tTups K tInt)))))) (tOne (tList K tInt)))).P found), .any, .any, .any, .any, .any, .any]) (f := (fun (ls2 : (List Int) × (List Bool)) lx2 => law_m_b2 stimuli_here spikes claims_here lx1 ls2.1 ls2.2 lx2)) (post := (fun r v B (_ : Hp) => tBool.rel r v B)) PassesOwn.never rfl (pim_range1 rfl (T.free 26 rfl) (ev_bi bi_len rfl (T.free 0 rfl) (ea_one (ev_var (i := 6) rfl rfl (.inl rfl))))) (pgm_name (i := 12) sc_law_m.nd rfl (.inl rfl)) (.eq (.eq (.eq (.eq (.eq (.eq (.eq (.eq (.eq (.eq (.eq (.eq (.eq (.eq (.eq (.eq (.eq (.eq .nil)))))))))))))))))) (fun _ => rfl) (fun ls2 lx2 => (bl_asg (i := 14) sc_law_m.nd rfl (.inl rfl) (ev_call (D_l_breaks T) (hr.mono (by decide)) rfl (ea_cons (ev_ix (ev_var (i := 6) rfl rfl (.inl rfl)) (ev_var (i := 12) rfl rfl (.inl rfl))) (ea_cons (ev_var (i := 2) rfl rfl (.inl rfl)) (ea_cons (ev_var (i := 3) rfl rfl (.inl rfl)) (ea_one (ev_var (i := 9) rfl rfl (.inl rfl))))))) fun due => (bl_asg (i := 15) sc_law_m.nd rfl (.inl rfl) (ev_call (D_p_is_broken T) (hr.mono (by decide)) rfl (ea_cons (ev_ix (ev_var (i := 6) rfl rfl (.inl rfl)) (ev_var (i := 12) rfl rfl (.inl rfl))) (ea_cons (ev_pix (pt_var (χ := (mList K tInt)) (i := 7) rfl rfl (.inl rfl)) (ev_var (i := 12) rfl rfl (.inl rfl))) (ea_one (ev_of_eo (eo_bi bi_listL rfl (T.free 2 rfl) (ea_one (ev_ix (ev_var (i := 3) rfl rfl (.inl rfl)) (ev_var (i := 9) rfl rfl (.inl rfl)))))))))) fun told => (bl_ifx (et_w (ew_and (et_not (et_val (ev_pix (pt_var (χ := (mList K tBool)) (i := 8) rfl rfl (.inl rfl)) (ev_var (i := 12) rfl rfl (.inl rfl))))) (ew_and1 (et_w (ew_or (et_not (et_val (ev_isiT (T' := "bool") (b := true) (by decide +kernel) (by decide +kernel) (T.free 44 rfl) rfl (T.free 43 rfl) rfl (ev_var (i := 15) rfl rfl (.inl rfl))))) (ew_or1 (et_cmp (ec_op oc_neB (ev_var (i := 15) rfl rfl (.inl rfl)) (ev_var (i := 14) rfl rfl (.inl rfl)))))))))) (bl_ret (g := Lp.rt) (fun _ => rfl) retP ev_bl) (bl_setI (ev_or (ev_pix (pt_var (χ := (mList K tBool)) (i := 8) rfl rfl (.inl rfl)) (ev_var (i := 12) rfl rfl (.inl rfl))) (ev_bool1 (ev_var (i := 14) rfl rfl (.inl rfl)))) (pt_var (χ := (mList K tBool)) (i := 8) rfl rfl (.inl rfl)) (ev_var (i := 12) rfl rfl (.inl rfl)) fun b1 broken2 => (bl_setI (ev_call (D_p_next_watch T) (hr.mono (by decide)) rfl (ea_cons (ev_ix (ev_var (i := 6) rfl rfl (.inl rfl)) (ev_var (i := 12) rfl rfl (.inl rfl))) (ea_cons (ev_pix (pt_var (χ := (mList K tInt)) (i := 7) rfl rfl (.inl rfl)) (ev_var (i := 12) rfl rfl (.inl rfl))) (ea_cons (ev_of_eo (eo_bi bi_listL rfl (T.free 2 rfl) (ea_one (ev_ix (ev_var (i := 2) rfl rfl (.inl rfl)) (ev_var (i := 9) rfl rfl (.inl rfl)))))) (ea_one (ev_of_eo (eo_bi bi_listL rfl (T.free 2 rfl) (ea_one (ev_ix (ev_var (i := 3) rfl rfl (.inl rfl)) (ev_var (i := 9) rfl rfl (.inl rfl))))))))))) (pt_var (χ := (mList K tInt)) (i := 7) rfl rfl (.inl rfl)) (ev_var (i := 12) rfl rfl (.inl rfl)) fun b3 watches4 => (bl_ifl (et_w (ew_and (et_cmp (ec_op oc_neS (ev_siS (ev_ixU (ev_ix (ev_var (i := 6) rfl rfl (.inl rfl)) (ev_var (i := 12) rfl rfl (.inl rfl))) ev_int)) ev_str)) (ew_and1 (et_cmp (ec_op oc_ne (ev_pix (pt_var (χ := (mList K tInt)) (i := 7) rfl rfl (.inl rfl)) (ev_var (i := 12) rfl rfl (.inl rfl))) ev_int))))) (bl_ret (g := Lp.rt) (fun _ => rfl) retP ev_bl) (bl_nil (.eq (.eq (.eq (.eq (.eq (.eq (.eq (.eq (.eq (.eq (.eq (.eq (.any (.eq (.any (.any (.eq (.eq .nil)))))))))))))))))) rfl)))))))) fun s1 => (bl_asg (i := 5) sc_law_m.nd rfl (.inl rfl) (ev_ixT (j := 0) (g := fun (z : (((List Int) × (List Int) × (List (List Int))) × (List Int))) => z.1) at_zero (ev_var (i := 11) rfl rfl (.inl rfl))) fun state => (bl_nil (.eq (.eq (.eq (.eq (.eq (.eq (.eq (.eq (.eq (.any (.eq (.any (.eq (.eq (.eq (.eq (.eq (.eq .nil)))))))))))))))))) rfl)))))) fun s2 => (bl_asg (i := 10) sc_law_m.nd rfl (.inr rfl) (ev_op ot_mod (ev_call (D_l_cell T) (hr.mono (by decide)) rfl (ea_cons (ev_var (i := 0) rfl rfl (.inl rfl)) (ea_one ev_int))) (ev_op ot_shl ev_int (ev_fld (f_Network_inputs T) (ev_var (i := 1) rfl rfl (.inl rfl))))) fun number => (bl_retF (fun _ => rfl) (ev_cmp (ec_op (oc_eqD (Room.units hr) (Nat.le_of_ble_eq_true rfl)) (ev_call (D_p_stimulus_of T) (hr.mono (by decide)) rfl (ea_cons (ev_var (i := 1) rfl rfl (.inl rfl)) (ea_one (ev_var (i := 10) rfl rfl (.inr (.inl rfl)))))) (ev_of_eo (eo_lc (own := [("_law_j", 17)]) (ft := (fun j => (o2 (fun x y => some (decide (x = y))) (o2 modG (o2 divG (some number) (o2 shlG (some (1 : Int)) (some j))) (some (2 : Int))) (some (1 : Int))))) (fe := (fun j => (some j))) rfl sc_law_m.nd (blkOk_by (by kernel_rfl)) (pim_range1 rfl (T.free 26 rfl) (ev_fld (f_Network_inputs T) (ev_var (i := 1) rfl rfl (.inl rfl)))) (pgc_name (i := 17) (fun _ _ _ _ _ => pg_name (i := 17) sc_law_m.nd rfl (Or.inl rfl))) (by decide) (ptc_if (fun _ _ _ _ _ j => (et_cmp (ec_op oc_eq (ev_op ot_mod (ev_op ot_div (ev_var (i := 10) rfl rfl (.inr (.inl rfl))) (ev_op ot_shl ev_int (ev_var (i := 17) rfl rfl (.inl rfl)))) ev_int) ev_int)))) (fun _ _ _ _ _ j => (ev_var (i := 17) rfl rfl (.inl rfl))))))))))))))))))))
theorem D_law_m {P : Program} {w : World} {K : PySem.W.Frag} {mg : Str → Option Value} {base : Heap} (T : Txt K mg) : Dfn P w K mg base "law" 5 [] (spF (tOne (tScr K)) (fun p => law_m p) tBool) := by
  obtain ⟨fd, F⟩ := T.def_ 27 (d := d_law_m) rfl
  exact ⟨_, fd, ["_law_script"], [], (T.glo 78 rfl), F.kp, (F.bindsN fun _ _ _ _ _ _ us hl => match us, hl with | [_], _ => rfl), .nil, ok_law_m T F⟩
end W
namespace W
open PySem hiding Run
open PySem.Spec PyProof.Rows L2 G M
abbrev Rr : PySem.W.OpenRow := PySem.W.OpenLaw.row PySem.Challenge.rw_spikehold_k18_states_of_a_network
abbrev hk : PySem.W.Hook := hookE 4 fa fn exs
def ob (s : PySem.W.SharedT) : He.AlD × Bool := obsE 4 fa fn exs (HandSHeadRun.getT s)
theorem ob_eq (s : PySem.W.SharedT) : ob s = hk.obs s.abs := obsE_eq (HandSHeadRun.getT_eq s)
theorem run (w : World) : HandSHeadRun.RunEq Rr (PySem.W.view Rr.prog [29]) hk ob 4000 ["_wall", "__name__", "Neuron", "step", "DELAYS", "initial_state", "advance", "stimulus_of", "next_watch", "is_broken", "Synapse", "Rule", "Network", "Run", "depressed", "potentiated", "recent", "Cells", "run", "_law_cell", "_law_neuron", "_law_synapse", "_law_network", "_law_stimuli", "_law_breaks", "_law_claims"] w := by
  intro os
  kernel_rfl
theorem facts {P : Program} {w : World} {K : PySem.W.Frag} {h : Heap} {mg : Str → Option Value} {f : Addr} (X : K.In h) (G' : h.Ns mainGlobals mg) (hfa : mg ("law" : Str) = some (.ref f)) (c : He.SaysD fa fn K) (cx : exB exs K = true) :
    ∃ fd : FuncData, (∀ (s : Shared) (v : Value), BindsTo s fd ⟨[v], []⟩ [("_law_script", v)]) ∧ ∀ base : Heap, FnOk P w K mg base CX0 5 f fd ["_law_script"] (spF (tOne (tScr K)) (fun p => law_m p) tBool) := by
  have T : Txt K mg := ⟨c, ⟨h, X, G'⟩, cx⟩
  obtain ⟨fd, F⟩ := T.def_ 27 (d := d_law_m) rfl
  have e := hfa.symm.trans (T.glo 78 rfl)
  cases e
  have b := FunD.bindsA (ps := ["_law_script"]) F fun _ _ _ _ _ _ us hl => match us, hl with | [_], _ => rfl
  exact ⟨fd, fun s v => b s [v] rfl, fun base => ok_law_m T F⟩
end W
open PySem PySem.W PySem.Calls PyProof.Rows
set_option maxRecDepth 100000 in
set_option maxHeartbeats 0 in
theorem PySem.Challenge.cw_spikehold_k18_states_of_a_network_holds : PySem.Challenge.rw_spikehold_k18_states_of_a_network.Holds := by
  w_on; o_law
  refine HandSHeadRun.head_any (r := OpenLaw.row PySem.Challenge.rw_spikehold_k18_states_of_a_network) (q := view (OpenLaw.row PySem.Challenge.rw_spikehold_k18_states_of_a_network).prog [29]) (H := W.hk) (ob := W.ob) (M := 4000) (loose := ["_wall", "__name__", "Neuron", "step", "DELAYS", "initial_state", "advance", "stimulus_of", "next_watch", "is_broken", "Synapse", "Rule", "Network", "Run", "depressed", "potentiated", "recent", "Cells", "run", "_law_cell", "_law_neuron", "_law_synapse", "_law_network", "_law_stimuli", "_law_breaks", "_law_claims"]) (d := HandSHeadRun.topDef (OpenLaw.row PySem.Challenge.rw_spikehold_k18_states_of_a_network).prog 29) (kwd := []) W.ob_eq
    (by kernel_rfl) (fun s => by kernel_rfl) W.run (by kernel_rfl) (by kernel_rfl) (by kernel_rfl) (by rfl) (by first | assumption | decide +kernel) (by decide +kernel) ⟨rfl, rfl, rfl, rfl, rfl, by decide +kernel⟩ ?hw ?hc
  case hw => w_witness2
  case hc =>
    refine L2.walk_ofE (l := PySem.Challenge.rw_spikehold_k18_states_of_a_network) (n := 63) (k := 5) (x := "_law_script") (CX := L2.CX0) rfl (by decide) (by kernel_rfl) ⟨rfl, by decide, by decide⟩ ?F (fun _ _ _ _ z => z)
    intro w mg fa h Y G hmg0
    obtain ⟨K, KX, c, cx⟩ := Y
    have hmg : mg ("law" : PySem.Str) = some (.ref fa) := by
      have e : (HandSHeadRun.topDef (OpenLaw.row PySem.Challenge.rw_spikehold_k18_states_of_a_network).prog 29).name = ("law" : PySem.Str) := by kernel_rfl
      rw [← e]
      exact hmg0
    obtain ⟨fd, hb, hF⟩ := W.facts (P := (PySem.Challenge.rw_spikehold_k18_states_of_a_network).prog) (w := w) KX G hmg c cx
    exact ⟨K, fd, _, KX, hb, fun H a ns hl _ hS => _root_.G.law_end M.law_true H a ns hl hS, fun base _ _ => hF base⟩
