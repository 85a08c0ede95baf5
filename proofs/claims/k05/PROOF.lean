import PyProof.Rows.All
import Wide.All
import OpenK.AllK
import Wide.FinOn
import HandS.ForMost
import HandS.Deep
import HandS.Defaults
import HandS.MakeKwOnly
import HandS.MakeKw
import HandS.IsInst
import HandS.More
import HandS.WordsExc
import HandS.Head0
import HandS.Head1
import HandS.Head2
import HandS.HeadEnd
import HandS.HeadHook1
import HandS.HeadHook2
import PySem.Challenge.RW_spikehold_k05_ways_and_distances
set_option Elab.async false
set_option linter.all false
set_option maxRecDepth 100000
set_option maxHeartbeats 4000000
set_option autoImplicit false
/-! G1: heaps in two parts (B: what never changes, M: what is owned), slots, judgements. -/
namespace G
open PySem L2

/-! ### heaps -/
def Dj (A B : Hp) : Prop := ∀ a o, A a = some o → B a = none
def un (A B : Hp) : Hp := fun a => match A a with | some o => some o | none => B a
def emp : Hp := fun _ => none
def sing (a : Addr) (o : HO) : Hp := fun b => if b = a then some o else none
theorem un_emp (A : Hp) : un A emp = A := by
  funext a
  unfold un emp
  cases A a <;> rfl
theorem emp_un (A : Hp) : un emp A = A := rfl
theorem un_some {A B : Hp} {a : Addr} {o : HO} (h : un A B a = some o) : A a = some o ∨ (A a = none ∧ B a = some o) := by
  unfold un at h
  cases q : A a with
  | some u => rw [q] at h; exact .inl h
  | none => rw [q] at h; exact .inr ⟨rfl, h⟩
theorem un_l {A B : Hp} {a : Addr} {o : HO} (h : A a = some o) : un A B a = some o := by unfold un; rw [h]
theorem un_r {A B : Hp} {a : Addr} (h : A a = none) : un A B a = B a := by unfold un; rw [h]
theorem un_none {A B : Hp} {a : Addr} : un A B a = none ↔ A a = none ∧ B a = none := by
  unfold un
  cases q : A a with
  | some u => simp
  | none => simp
theorem same_un_l (A B : Hp) : Same A (un A B) := fun a o h => un_l h
theorem same_un_r {A B : Hp} (d : Dj A B) : Same B (un A B) := fun a o h => by
  cases q : A a with
  | some u => rw [d a u q] at h; cases h
  | none => rw [un_r q]; exact h
theorem un_assoc (A B C : Hp) : un (un A B) C = un A (un B C) := by
  funext a
  unfold un
  cases A a <;> rfl
theorem un_comm {A B : Hp} (d : Dj A B) : un A B = un B A := by
  funext a
  unfold un
  cases q : A a with
  | some u => rw [d a u q]
  | none => cases B a <;> rfl
theorem Dj.symm {A B : Hp} (d : Dj A B) : Dj B A := fun a o h => by
  cases q : A a with
  | some u => rw [d a u q] at h; cases h
  | none => rfl
theorem Dj.un_l {A B C : Hp} (d : Dj (un A B) C) : Dj A C := fun a o h => d a o (G.un_l h)
theorem Dj.un_r {A B C : Hp} (d : Dj (un A B) C) (e : Dj A B) : Dj B C := fun a o h => d a o (same_un_r e a o h)
theorem Dj.un {A B C : Hp} (d : Dj A C) (e : Dj B C) : Dj (G.un A B) C := fun a o h => by
  rcases un_some h with h | ⟨_, h⟩
  · exact d a o h
  · exact e a o h
theorem Dj.emp (A : Hp) : Dj emp A := fun _ _ h => nomatch h
theorem Dj.sub {A B C : Hp} (d : Dj A C) (h : Same B A) : Dj B C := fun a o q => d a o (h a o q)
theorem same_un {A B C : Hp} (h : Same A C) (k : Same B C) : Same (un A B) C := fun a o q => by
  rcases un_some q with q | ⟨_, q⟩
  · exact h a o q
  · exact k a o q
theorem same_mono {A B B' : Hp} (k : Same B B') (d : Dj A B') : Same (un A B) (un A B') := fun a o q => by
  rcases un_some q with q | ⟨n, q⟩
  · exact un_l q
  · rw [un_r n]; exact k a o q
theorem same_un' {A B A' B' : Hp} (h : Same A A') (k : Same B B') (d : Dj A' B') : Same (un A B) (un A' B') := fun a o q => by
  rcases un_some q with q | ⟨n, q⟩
  · exact un_l (h a o q)
  · exact same_un_r d a o (k a o q)
theorem sing_same {a : Addr} {o : HO} : sing a o a = some o := by unfold sing; rw [if_pos rfl]
theorem sing_ne {a b : Addr} {o : HO} (h : b ≠ a) : sing a o b = none := by unfold sing; rw [if_neg h]
theorem sing_some {a b : Addr} {o u : HO} (h : sing a o b = some u) : b = a ∧ u = o := by
  unfold sing at h
  split at h
  · exact ⟨by assumption, (Option.some.inj h).symm⟩
  · cases h
theorem same_upd {H : Hp} {p : Addr} {o : HO} (h : H p = none) : Same H (upd H p o) := fun a u e => by
  rw [upd_ne (ne_of_none e h)]
  exact e

/-- B and M lie in H, apart -/
structure In (B M H : Hp) : Prop where
  b : Same B H
  m : Same M H
  dj : Dj M B
/-- growth alone: what an expression that changes nothing does -/
structure Gr (B H B' H' : Hp) : Prop where
  bb : Same B B'
  hh : Same H H'
  bh : Same B' H'
  new : ∀ a o, H a = some o → B a = none → B' a = none
theorem Gr.refl {B H : Hp} (h : Same B H) : Gr B H B H := ⟨Same.refl _, Same.refl _, h, fun _ _ _ h => h⟩
theorem Gr.trans {B H B1 H1 B2 H2 : Hp} (p : Gr B H B1 H1) (q : Gr B1 H1 B2 H2) : Gr B H B2 H2 :=
  ⟨p.bb.trans q.bb, p.hh.trans q.hh, q.bh, fun a o h n => q.new a o (p.hh a o h) (p.new a o h n)⟩
theorem In.gr {B M H B' H' : Hp} (i : In B M H) (g : Gr B H B' H') : In B' M H' :=
  ⟨g.bh, i.m.trans g.hh, fun a o h => g.new a o (i.m a o h) (i.dj a o h)⟩
/-- the heap grows by objects that are not told of -/
theorem Gr.heap {B H H' : Hp} (b : Same B H) (h : Same H H') : Gr B H B H' := ⟨Same.refl _, h, b.trans h, fun _ _ _ n => n⟩
/-- a new object of the base -/
theorem Gr.alloc {B H : Hp} {p : Addr} {o : HO} (b : Same B H) (h : H p = none) : Gr B H (upd B p o) (upd H p o) := by
  have hb : B p = none := by
    cases q : B p with
    | none => rfl
    | some u => rw [b p u q] at h; cases h
  refine ⟨same_upd hb, same_upd h, fun a u q => ?_, fun a u q n => ?_⟩
  · by_cases e : a = p
    · subst e; rw [upd_same] at q ⊢; exact q
    · rw [upd_ne e] at q ⊢; exact b a u q
  · rw [upd_ne (ne_of_none q h)]; exact n
/-- an owned part becomes a part of the base -/
theorem Gr.frz {B M H B' H' M' : Hp} (g : Gr B H B' H') (m : Same M' H') (new : ∀ a o, M' a = some o → H a = none ∧ B' a = none) : Gr B H (un M' B') H' := by
  have d : Dj M' B' := fun a o h => (new a o h).2
  refine ⟨g.bb.trans (same_un_r d), g.hh, same_un m g.bh, fun a o h n => ?_⟩
  refine un_none.mpr ⟨?_, g.new a o h n⟩
  cases q : M' a with
  | none => rfl
  | some u => rw [(new a u q).1] at h; cases h

/-- a step that may change the owned part -/
structure Stp (B M H B' M' H' : Hp) : Prop where
  bb : Same B B'
  i : In B' M' H'
  fr : ∀ a o, H a = some o → M a = none → H' a = some o
  newB : ∀ a o, H a = some o → B a = none → M a = none → B' a = none
  newM : ∀ a o, H a = some o → M a = none → M' a = none
theorem Stp.refl {B M H : Hp} (i : In B M H) : Stp B M H B M H := ⟨Same.refl _, i, fun _ _ h _ => h, fun _ _ _ h _ => h, fun _ _ _ h => h⟩
theorem Stp.trans {B M H B1 M1 H1 B2 M2 H2 : Hp} (p : Stp B M H B1 M1 H1) (q : Stp B1 M1 H1 B2 M2 H2) : Stp B M H B2 M2 H2 :=
  ⟨p.bb.trans q.bb, q.i, fun a o h n => q.fr a o (p.fr a o h n) (p.newM a o h n),
   fun a o h b n => q.newB a o (p.fr a o h n) (p.newB a o h b n) (p.newM a o h n), fun a o h n => q.newM a o (p.fr a o h n) (p.newM a o h n)⟩
theorem Stp.gr {B M H B' H' : Hp} (i : In B M H) (g : Gr B H B' H') : Stp B M H B' M H' :=
  ⟨g.bb, i.gr g, fun a o h _ => g.hh a o h, fun a o h b _ => g.new a o h b, fun _ _ _ n => n⟩
theorem Stp.drop {B M H M' : Hp} (i : In B M H) (s : Same M' M) : Stp B M H B M' H := by
  refine ⟨Same.refl _, ⟨i.b, s.trans i.m, i.dj.sub s⟩, fun _ _ h _ => h, fun _ _ _ b _ => b, fun a o h n => ?_⟩
  cases q : M' a with
  | none => rfl
  | some u => rw [s a u q] at n; cases n

/-! ### slots -/
structure MP where
  p : V → Hp → Prop
  mono : ∀ v B B', Same B B' → p v B → p v B'
/-- what an owned thing is: by its value, the base, its own part of the heap; how it is seen when it changes no more -/
structure MO where
  p : V → Hp → Hp → Prop
  mono : ∀ v B B' M, Same B B' → p v B M → p v B' M
  fr : MP
  frz : ∀ v B M, Dj M B → p v B M → fr.p v (un M B)
  kd : ∀ v B M, p v B M → ∀ a o, M a = some o → (∀ xs, o ≠ .tup xs) ∧ (∀ z u, o ≠ .frz z u)
/-- .. that stands at u -/
def MO.at (ψ : MO) (u : V) : MO := ⟨fun v B M => v = u ∧ ψ.p v B M, fun v B B' M h p => ⟨p.1, ψ.mono v B B' M h p.2⟩, ψ.fr, fun v B M d p => ψ.frz v B M d p.2, fun v B M p => ψ.kd v B M p.2⟩
inductive Slot where
  | any
  | val (φ : MP)
  | own (ψ : MO)

def OkS : List Slot → L2.St → Hp → Hp → Prop
  | [], [], _, M => M = emp
  | .any :: Γ, _ :: σ, B, M => OkS Γ σ B M
  | .val φ :: Γ, o :: σ, B, M => (∃ v, o = some v ∧ φ.p v B) ∧ OkS Γ σ B M
  | .own ψ :: Γ, o :: σ, B, M => ∃ v M1 M2, o = some v ∧ M = un M1 M2 ∧ Dj M1 M2 ∧ ψ.p v B M1 ∧ OkS Γ σ B M2
  | _, _, _, _ => False
theorem OkS.mono {B B' : Hp} (h : Same B B') : ∀ {Γ : List Slot} {σ : L2.St} {M : Hp}, OkS Γ σ B M → OkS Γ σ B' M
  | [], [], _, k => k
  | .any :: Γ, _ :: σ, M, k => OkS.mono h (Γ := Γ) (σ := σ) k
  | .val φ :: Γ, o :: σ, M, ⟨⟨v, e, p⟩, k⟩ => ⟨⟨v, e, φ.mono v B B' h p⟩, OkS.mono h k⟩
  | .own ψ :: Γ, o :: σ, M, ⟨v, M1, M2, e, m, d, p, k⟩ => ⟨v, M1, M2, e, m, d, ψ.mono v B B' M1 h p, OkS.mono h k⟩
  | [], _ :: _, _, k => k.elim
  | .any :: _, [], _, k => k.elim
  | .val _ :: _, [], _, k => k.elim
  | .own _ :: _, [], _, k => k.elim
theorem OkS.len {B : Hp} : ∀ {Γ : List Slot} {σ : L2.St} {M : Hp}, OkS Γ σ B M → Γ.length = σ.length
  | [], [], _, _ => rfl
  | .any :: Γ, _ :: σ, M, k => congrArg (· + 1) (OkS.len (Γ := Γ) (σ := σ) k)
  | .val φ :: Γ, o :: σ, M, ⟨_, k⟩ => congrArg (· + 1) (OkS.len k)
  | .own ψ :: Γ, o :: σ, M, ⟨_, _, _, _, _, _, _, k⟩ => congrArg (· + 1) (OkS.len k)
  | [], _ :: _, _, k => k.elim
  | .any :: _, [], _, k => k.elim
  | .val _ :: _, [], _, k => k.elim
  | .own _ :: _, [], _, k => k.elim
/-- the i-th slot -/
def sl : List Slot → Nat → Slot
  | [], _ => .any
  | s :: _, 0 => s
  | _ :: Γ, i + 1 => sl Γ i
def st : List Slot → Nat → Slot → List Slot
  | [], _, _ => []
  | _ :: Γ, 0, u => u :: Γ
  | s :: Γ, i + 1, u => s :: st Γ i u
theorem OkS.val {φ : MP} {B : Hp} : ∀ {Γ : List Slot} {σ : L2.St} {M : Hp} {i : Nat}, OkS Γ σ B M → sl Γ i = .val φ → ∃ v, σ[i]? = some (some v) ∧ φ.p v B
  | [], [], _, _, _, q => nomatch q
  | .any :: Γ, _ :: σ, M, 0, k, q => nomatch q
  | .any :: Γ, _ :: σ, M, i + 1, k, q => by
    obtain ⟨v, e, p⟩ := OkS.val (i := i) (Γ := Γ) (σ := σ) k q
    exact ⟨v, by simpa using e, p⟩
  | .val ψ :: Γ, o :: σ, M, 0, ⟨⟨v, e, p⟩, k⟩, q => by
    obtain rfl : ψ = φ := Slot.val.inj q
    exact ⟨v, by simp [e], p⟩
  | .val ψ :: Γ, o :: σ, M, i + 1, ⟨_, k⟩, q => by
    obtain ⟨v, e, p⟩ := OkS.val (i := i) k q
    exact ⟨v, by simpa using e, p⟩
  | .own ψ :: Γ, o :: σ, M, 0, _, q => nomatch q
  | .own ψ :: Γ, o :: σ, M, i + 1, ⟨_, _, _, _, _, _, _, k⟩, q => by
    obtain ⟨v, e, p⟩ := OkS.val (i := i) k q
    exact ⟨v, by simpa using e, p⟩
  | [], _ :: _, _, _, k, _ => k.elim
  | .any :: _, [], _, _, k, _ => k.elim
  | .val _ :: _, [], _, _, k, _ => k.elim
  | .own _ :: _, [], _, _, k, _ => k.elim
/-- a slot is stored: a value of the base -/
theorem OkS.set {φ : MP} {v : V} {B : Hp} (p : φ.p v B) : ∀ {Γ : List Slot} {σ : L2.St} {M : Hp} {i : Nat}, OkS Γ σ B M → ∃ M', Same M' M ∧ OkS (st Γ i (.val φ)) (σ.set i (some v)) B M'
  | [], [], M, i, k => ⟨M, Same.refl _, by cases i <;> exact k⟩
  | .any :: Γ, _ :: σ, M, 0, k => ⟨M, Same.refl _, ⟨v, rfl, p⟩, k⟩
  | .any :: Γ, _ :: σ, M, i + 1, k => by
    obtain ⟨M', s, q⟩ := OkS.set p (i := i) (Γ := Γ) (σ := σ) k
    exact ⟨M', s, q⟩
  | .val ψ :: Γ, o :: σ, M, 0, ⟨_, k⟩ => ⟨M, Same.refl _, ⟨v, rfl, p⟩, k⟩
  | .val ψ :: Γ, o :: σ, M, i + 1, ⟨z, k⟩ => by
    obtain ⟨M', s, q⟩ := OkS.set p (i := i) k
    exact ⟨M', s, z, q⟩
  | .own ψ :: Γ, o :: σ, M, 0, ⟨_, M1, M2, _, m, d, _, k⟩ => ⟨M2, by rw [m]; exact same_un_r d, ⟨v, rfl, p⟩, k⟩
  | .own ψ :: Γ, o :: σ, M, i + 1, ⟨w, M1, M2, e, m, d, z, k⟩ => by
    obtain ⟨M', s, q⟩ := OkS.set p (i := i) k
    have d' : Dj M1 M' := (d.symm.sub s).symm
    exact ⟨un M1 M', by rw [m]; exact same_un' (Same.refl _) s d, w, M1, M', e, rfl, d', z, q⟩
  | [], _ :: _, _, _, k => k.elim
  | .any :: _, [], _, _, k => k.elim
  | .val _ :: _, [], _, _, k => k.elim
  | .own _ :: _, [], _, _, k => k.elim
/-- an owned slot, taken out and put back -/
theorem OkS.focus {ψ : MO} {B : Hp} : ∀ {Γ : List Slot} {σ : L2.St} {M : Hp} {i : Nat}, OkS Γ σ B M → sl Γ i = .own ψ →
    ∃ v M1 M2, σ[i]? = some (some v) ∧ M = un M1 M2 ∧ Dj M1 M2 ∧ ψ.p v B M1 ∧
      ∀ (ψ' : MO) B' M1', Same B B' → Dj M1' M2 → ψ'.p v B' M1' → OkS (st Γ i (.own ψ')) σ B' (un M1' M2)
  | [], [], _, _, _, q => nomatch q
  | .any :: Γ, _ :: σ, M, 0, k, q => nomatch q
  | .any :: Γ, _ :: σ, M, i + 1, k, q => by
    obtain ⟨v, M1, M2, e, m, d, p, z⟩ := OkS.focus (i := i) (Γ := Γ) (σ := σ) k q
    exact ⟨v, M1, M2, by simpa using e, m, d, p, fun ψ' B' M1' s d' p' => z ψ' B' M1' s d' p'⟩
  | .val φ :: Γ, o :: σ, M, 0, _, q => nomatch q
  | .val φ :: Γ, o :: σ, M, i + 1, ⟨⟨w, ew, pw⟩, k⟩, q => by
    obtain ⟨v, M1, M2, e, m, d, p, z⟩ := OkS.focus (i := i) k q
    exact ⟨v, M1, M2, by simpa using e, m, d, p, fun ψ' B' M1' s d' p' => ⟨⟨w, ew, φ.mono w B B' s pw⟩, z ψ' B' M1' s d' p'⟩⟩
  | .own χ :: Γ, o :: σ, M, 0, ⟨v, M1, M2, e, m, d, p, k⟩, q => by
    obtain rfl : χ = ψ := Slot.own.inj q
    exact ⟨v, M1, M2, by simp [e], m, d, p, fun ψ' B' M1' s d' p' => ⟨v, M1', M2, e, rfl, d', p', k.mono s⟩⟩
  | .own χ :: Γ, o :: σ, M, i + 1, ⟨w, N1, N2, ew, mw, dw, pw, k⟩, q => by
    obtain ⟨v, M1, M2, e, m, d, p, z⟩ := OkS.focus (i := i) k q
    have dN : Dj N1 (un M1 M2) := by rw [← m]; exact dw
    have d1 : Dj M1 N1 := dN.symm.un_l
    have d2 : Dj M2 N1 := dN.symm.un_r d
    refine ⟨v, M1, un N1 M2, by simpa using e, ?_, (Dj.un d1.symm d.symm).symm, p, fun ψ' B' M1' s d' p' => ?_⟩
    · rw [mw, m, ← un_assoc, un_comm d1.symm, un_assoc]
    · have e1 : Dj N1 M1' := d'.symm.un_l
      have e2 : Dj M2 M1' := d'.symm.un_r d2.symm
      refine ⟨w, N1, un M1' M2, ew, ?_, (Dj.un e1.symm d2).symm, χ.mono w B B' N1 s pw, z ψ' B' M1' s e2.symm p'⟩
      rw [← un_assoc, ← un_assoc, un_comm e1.symm]
  | [], _ :: _, _, _, k, _ => k.elim
  | .any :: _, [], _, _, k, _ => k.elim
  | .val _ :: _, [], _, _, k, _ => k.elim
  | .own _ :: _, [], _, _, k, _ => k.elim
/-- a slot is stored: a new owned thing -/
theorem OkS.setOwn {ψ : MO} {v : V} {B N : Hp} (p : ψ.p v B N) : ∀ {Γ : List Slot} {σ : L2.St} {M : Hp} {i : Nat}, OkS Γ σ B M → Dj N M → i < Γ.length →
    ∃ M', Same M' M ∧ OkS (st Γ i (.own ψ)) (σ.set i (some v)) B (un N M')
  | [], [], M, i, k, _, h => absurd h (Nat.not_lt_zero _)
  | .any :: Γ, _ :: σ, M, 0, k, d, _ => ⟨M, Same.refl _, v, N, M, rfl, rfl, d, p, k⟩
  | .any :: Γ, _ :: σ, M, i + 1, k, d, h => by
    obtain ⟨M', s, q⟩ := OkS.setOwn p (i := i) (Γ := Γ) (σ := σ) k d (Nat.lt_of_succ_lt_succ h)
    exact ⟨M', s, q⟩
  | .val ψ :: Γ, o :: σ, M, 0, ⟨_, k⟩, d, _ => ⟨M, Same.refl _, v, N, M, rfl, rfl, d, p, k⟩
  | .val ψ :: Γ, o :: σ, M, i + 1, ⟨z, k⟩, d, h => by
    obtain ⟨M', s, q⟩ := OkS.setOwn p (i := i) k d (Nat.lt_of_succ_lt_succ h)
    exact ⟨M', s, z, q⟩
  | .own χ :: Γ, o :: σ, M, 0, ⟨_, M1, M2, _, m, d, _, k⟩, dn, _ => ⟨M2, by rw [m]; exact same_un_r d, v, N, M2, rfl, rfl, (dn.symm.sub (by rw [m]; exact same_un_r d)).symm, p, k⟩
  | .own χ :: Γ, o :: σ, M, i + 1, ⟨w, M1, M2, e, m, d, z, k⟩, dn, h => by
    have dM : Dj (un M1 M2) N := by rw [← m]; exact dn.symm
    obtain ⟨M', s, q⟩ := OkS.setOwn p (i := i) k (dM.un_r d).symm (Nat.lt_of_succ_lt_succ h)
    have d' : Dj M1 M' := (d.symm.sub s).symm
    have dN : Dj M1 N := dM.un_l
    refine ⟨un M1 M', by rw [m]; exact same_un' (Same.refl _) s d, w, M1, un N M', e, ?_, (Dj.un dN.symm d'.symm).symm, z, q⟩
    rw [← un_assoc, un_comm dN.symm, un_assoc]
  | [], _ :: _, _, _, k, _, _ => k.elim
  | .any :: _, [], _, _, k, _, _ => k.elim
  | .val _ :: _, [], _, _, k, _, _ => k.elim
  | .own _ :: _, [], _, _, k, _, _ => k.elim
/-- what is forgotten -/
inductive Sub : List Slot → List Slot → Prop
  | nil : Sub [] []
  | eq {s : Slot} {Γ Γ' : List Slot} (h : Sub Γ Γ') : Sub (s :: Γ) (s :: Γ')
  | any {s : Slot} {Γ Γ' : List Slot} (h : Sub Γ Γ') : Sub (s :: Γ) (.any :: Γ')
theorem Sub.refl : ∀ Γ : List Slot, Sub Γ Γ
  | [] => .nil
  | _ :: Γ => .eq (Sub.refl Γ)
theorem OkS.sub {B : Hp} {Γ Γ' : List Slot} (h : Sub Γ Γ') : ∀ {σ : L2.St} {M : Hp}, OkS Γ σ B M → ∃ M', Same M' M ∧ OkS Γ' σ B M' := by
  induction h with
  | nil => exact fun {σ M} k => ⟨M, Same.refl _, k⟩
  | @eq s Γ Γ' h ih =>
    intro σ M k
    cases σ with
    | nil => cases s <;> exact k.elim
    | cons o σ =>
      cases s with
      | any => obtain ⟨M', a, q⟩ := ih (σ := σ) (M := M) k; exact ⟨M', a, q⟩
      | val φ => obtain ⟨z, k⟩ := k; obtain ⟨M', a, q⟩ := ih k; exact ⟨M', a, z, q⟩
      | own ψ =>
        obtain ⟨w, M1, M2, e, m, d, z, k⟩ := k
        obtain ⟨M', a, q⟩ := ih k
        exact ⟨un M1 M', by rw [m]; exact same_un' (Same.refl _) a d, w, M1, M', e, rfl, (d.symm.sub a).symm, z, q⟩
  | @any s Γ Γ' h ih =>
    intro σ M k
    cases σ with
    | nil => cases s <;> exact k.elim
    | cons o σ =>
      cases s with
      | any => obtain ⟨M', a, q⟩ := ih (σ := σ) (M := M) k; exact ⟨M', a, q⟩
      | val φ => obtain ⟨z, k⟩ := k; obtain ⟨M', a, q⟩ := ih k; exact ⟨M', a, q⟩
      | own ψ =>
        obtain ⟨w, M1, M2, e, m, d, z, k⟩ := k
        obtain ⟨M', a, q⟩ := ih k
        exact ⟨M', a.trans (by rw [m]; exact same_un_r d), q⟩
theorem OkS.kd {B : Hp} : ∀ {Γ : List Slot} {σ : L2.St} {M : Hp}, OkS Γ σ B M → ∀ a o, M a = some o → (∀ xs, o ≠ .tup xs) ∧ (∀ z u, o ≠ .frz z u)
  | [], [], M, k, a, o, h => by rw [show M = emp from k] at h; cases h
  | .any :: Γ, _ :: σ, M, k, a, o, h => OkS.kd (Γ := Γ) (σ := σ) k a o h
  | .val φ :: Γ, o :: σ, M, ⟨_, k⟩, a, _, h => OkS.kd k a _ h
  | .own ψ :: Γ, o :: σ, M, ⟨v, M1, M2, e, m, d, p, k⟩, a, _, h => by
    rw [m] at h
    rcases un_some h with h | ⟨_, h⟩
    · exact ψ.kd v B M1 p a _ h
    · exact OkS.kd k a _ h
  | [], _ :: _, _, k, _, _, _ => k.elim
  | .any :: _, [], _, k, _, _, _ => k.elim
  | .val _ :: _, [], _, k, _, _, _ => k.elim
  | .own _ :: _, [], _, k, _, _, _ => k.elim
/-- all owned things as they are seen: for reading alone -/
def fz : List Slot → List Slot
  | [] => []
  | .any :: Γ => .any :: fz Γ
  | .val φ :: Γ => .val φ :: fz Γ
  | .own ψ :: Γ => .val ψ.fr :: fz Γ
theorem OkS.fz : ∀ {Γ : List Slot} {σ : L2.St} {B M : Hp}, OkS Γ σ B M → Dj M B → OkS (G.fz Γ) σ (un M B) emp
  | [], [], B, M, k, d => rfl
  | .any :: Γ, _ :: σ, B, M, k, d => OkS.fz (Γ := Γ) (σ := σ) k d
  | .val φ :: Γ, o :: σ, B, M, ⟨⟨v, e, p⟩, k⟩, d => ⟨⟨v, e, φ.mono v B _ (same_un_r d) p⟩, OkS.fz k d⟩
  | .own ψ :: Γ, o :: σ, B, M, ⟨v, M1, M2, e, m, dd, p, k⟩, d => by
    subst m
    have d2 : Dj M2 B := d.un_r dd
    have q := OkS.fz k d2
    refine ⟨⟨v, e, ?_⟩, q.mono ?_⟩
    · refine ψ.fr.mono v _ _ ?_ (ψ.frz v B M1 d.un_l p)
      rw [un_assoc]
      exact same_mono (same_un_r d2) (Dj.un dd.symm d.un_l.symm).symm
    · rw [un_assoc]
      exact same_un_r (Dj.un dd.symm d.un_l.symm).symm
  | [], _ :: _, _, _, k, _ => k.elim
  | .any :: _, [], _, _, k, _ => k.elim
  | .val _ :: _, [], _, _, k, _ => k.elim
  | .own _ :: _, [], _, _, k, _ => k.elim
end G
/-! G2: types of data, expressions. -/
namespace G
open PySem L2

/-! ### types -/
structure Ty (α : Type) where
  rel : α → V → Hp → Prop
  mono : ∀ x v B B', Same B B' → rel x v B → rel x v B'
def Ty.P {α : Type} (τ : Ty α) (x : α) : MP := ⟨fun v B => τ.rel x v B, τ.mono x⟩
/-- what stands in a tuple, an instance, an argument list -/
structure TyT (α : Type) where
  rel : α → List V → Hp → Prop
  mono : ∀ x vs B B', Same B B' → rel x vs B → rel x vs B'
  len : Nat
  hlen : ∀ x vs B, rel x vs B → vs.length = len
  slots : α → List Slot
  hsl : ∀ x vs B, rel x vs B → OkS (slots x) (vs.map some) B emp
def tInt : Ty Int := ⟨fun i v _ => v = .int i, fun _ _ _ _ _ h => h⟩
def tBool : Ty Bool := ⟨fun b v _ => v = .bl b, fun _ _ _ _ _ h => h⟩
def tStr : Ty Str := ⟨fun s v _ => v = .str s, fun _ _ _ _ _ h => h⟩
def tNone : Ty Unit := ⟨fun _ v _ => v = .non, fun _ _ _ _ _ h => h⟩
def tOpt {α : Type} (τ : Ty α) : Ty (Option α) where
  rel := fun o v B => match o with
    | none => v = .non
    | some x => v ≠ .non ∧ τ.rel x v B
  mono := fun o v B B' h p => by
    cases o with
    | none => exact p
    | some x => exact ⟨p.1, τ.mono x v B B' h p.2⟩
def tList (K : PySem.W.Frag) {α : Type} (τ : Ty α) : Ty (List α) where
  rel := fun xs v B => ∃ a vs, v = .ref a ∧ B a = some (.lst vs) ∧ Paired (fun x u => τ.rel x u B) xs vs
  mono := fun xs v B B' h ⟨a, vs, e, s, p⟩ => ⟨a, vs, e, h _ _ s, Paired.mapP p fun x u r => τ.mono x u B B' h r⟩
/-- the script: a list of ints that stands outside -/
def tScr (K : PySem.W.Frag) : Ty (List Int) where
  rel := fun xs v B => ∃ a, v = .ref a ∧ SqL K B a (xs.map V.int)
  mono := fun xs v B B' h ⟨a, e, s⟩ => ⟨a, e, h.seq s⟩
def tOne {α : Type} (τ : Ty α) : TyT α where
  rel := fun x vs B => ∃ v, vs = [v] ∧ τ.rel x v B
  mono := fun x vs B B' h ⟨v, e, r⟩ => ⟨v, e, τ.mono x v B B' h r⟩
  len := 1
  hlen := fun x vs B ⟨v, e, r⟩ => by rw [e]; rfl
  slots := fun x => [.val (τ.P x)]
  hsl := fun x vs B ⟨v, e, r⟩ => by subst e; exact ⟨⟨v, rfl, r⟩, rfl⟩
def tNil : TyT Unit where
  rel := fun _ vs _ => vs = []
  mono := fun _ _ _ _ _ h => h
  len := 0
  hlen := fun x vs B e => by rw [e]; rfl
  slots := fun _ => []
  hsl := fun x vs B e => by subst e; exact rfl
def tCons {α β : Type} (τ : Ty α) (ρ : TyT β) : TyT (α × β) where
  rel := fun x vs B => ∃ v ws, vs = v :: ws ∧ τ.rel x.1 v B ∧ ρ.rel x.2 ws B
  mono := fun x vs B B' h ⟨v, ws, e, r, q⟩ => ⟨v, ws, e, τ.mono _ v B B' h r, ρ.mono _ ws B B' h q⟩
  len := ρ.len + 1
  hlen := fun x vs B ⟨v, ws, e, r, q⟩ => by rw [e, List.length_cons, ρ.hlen _ _ _ q]
  slots := fun x => .val (τ.P x.1) :: ρ.slots x.2
  hsl := fun x vs B ⟨v, ws, e, r, q⟩ => by subst e; exact ⟨⟨v, rfl, r⟩, ρ.hsl _ _ _ q⟩
theorem same_tup {K : PySem.W.Frag} {H H' : Hp} {a : Addr} {xs : List V} (e : Same H H') (h : SqT K H a xs) : SqT K H' a xs := by
  rcases h with (h | ⟨o, h⟩) | h
  · exact .inl (.inl (e _ _ h))
  · exact .inl (.inr ⟨o, e _ _ h⟩)
  · exact .inr h
def tTup (K : PySem.W.Frag) {α : Type} (ρ : TyT α) : Ty α where
  rel := fun x v B => ∃ a vs, v = .ref a ∧ SqT K B a vs ∧ ρ.rel x vs B
  mono := fun x v B B' h ⟨a, vs, e, s, p⟩ => ⟨a, vs, e, same_tup h s, ρ.mono x vs B B' h p⟩
/-- a tuple of any length whose items are alike -/
def tTups (K : PySem.W.Frag) {α : Type} (τ : Ty α) : Ty (List α) where
  rel := fun xs v B => ∃ a vs, v = .ref a ∧ SqT K B a vs ∧ Paired (fun x u => τ.rel x u B) xs vs
  mono := fun xs v B B' h ⟨a, vs, e, s, p⟩ => ⟨a, vs, e, same_tup h s, Paired.mapP p fun x u r => τ.mono x u B B' h r⟩
/-- an instance of the class at C whose attributes are names, in this order -/
def tObjP (C : Addr) (names : List Str) (Γf : List Slot) : MP where
  p := fun v B => ∃ a dx vs, v = .ref a ∧ B a = some (.ins C dx (names.zip vs)) ∧ names.length = vs.length ∧ OkS Γf (vs.map some) B emp
  mono := fun v B B' h ⟨a, dx, vs, e, s, l, k⟩ => ⟨a, dx, vs, e, h _ _ s, l, k.mono h⟩
def tObj (C : Addr) (names : List Str) {α : Type} (sf : α → List Slot) : Ty α where
  rel := fun x v B => (tObjP C names (sf x)).p v B
  mono := fun x v B B' h p => (tObjP C names (sf x)).mono v B B' h p
def mList (K : PySem.W.Frag) {α : Type} (τ : Ty α) (xs : List α) : MO where
  p := fun v B M => ∃ a vs, v = .ref a ∧ M = sing a (.lst vs) ∧ Paired (fun x u => τ.rel x u B) xs vs
  mono := fun v B B' M h ⟨a, vs, e, m, p⟩ => ⟨a, vs, e, m, Paired.mapP p fun x u r => τ.mono x u B B' h r⟩
  fr := (tList K τ).P xs
  frz := fun v B M d ⟨a, vs, e, m, p⟩ => by
    refine ⟨a, vs, e, un_l ?_, Paired.mapP p fun x u r => τ.mono x u B _ (same_un_r d) r⟩
    rw [m]; exact sing_same
  kd := fun v B M ⟨a, vs, e, m, p⟩ b ys h => by
    rw [m] at h
    obtain ⟨_, z⟩ := sing_some h
    subst z
    exact ⟨fun _ q => (nomatch q), fun _ _ q => (nomatch q)⟩
def mObj (C : Addr) (names : List Str) (Γf : List Slot) : MO where
  p := fun v B M => ∃ a dx vs M1, v = .ref a ∧ M = un (sing a (.ins C dx (names.zip vs))) M1 ∧ Dj (sing a (.ins C dx (names.zip vs))) M1 ∧ names.length = vs.length ∧ OkS Γf (vs.map some) B M1
  mono := fun v B B' M h ⟨a, dx, vs, M1, e, m, d, l, k⟩ => ⟨a, dx, vs, M1, e, m, d, l, k.mono h⟩
  fr := tObjP C names (fz Γf)
  frz := fun v B M dj ⟨a, dx, vs, M1, e, m, d, l, k⟩ => by
    subst m
    have d1 : Dj M1 B := dj.un_r d
    have d0 : Dj (sing a (.ins C dx (names.zip vs))) (un M1 B) := (Dj.un d.symm (dj.un_l).symm).symm
    refine ⟨a, dx, vs, e, un_l (un_l sing_same), l, (k.fz d1).mono ?_⟩
    rw [un_assoc]
    exact same_un_r d0
  kd := fun v B M ⟨a, dx, vs, M1, e, m, d, l, k⟩ b o h => by
    rw [m] at h
    rcases un_some h with h | ⟨_, h⟩
    · obtain ⟨_, z⟩ := sing_some h
      subst z
      exact ⟨fun _ q => (nomatch q), fun _ _ q => (nomatch q)⟩
    · exact k.kd b o h
/-- a list of owned things -/
def AllO (K : PySem.W.Frag) : List MO → List V → Hp → Hp → Prop
  | [], [], _, M => M = emp
  | ψ :: ψs, v :: vs, B, M => ∃ M1 M2, M = un M1 M2 ∧ Dj M1 M2 ∧ ψ.p v B M1 ∧ AllO K ψs vs B M2
  | _, _, _, _ => False
/-- not None -/
class NN {α : Type} (τ : Ty α) : Prop where
  nn : ∀ x v B, τ.rel x v B → v ≠ .non
instance : NN tInt := ⟨fun x v B h => by cases h; intro z; cases z⟩
instance : NN tBool := ⟨fun x v B h => by cases h; intro z; cases z⟩
instance : NN tStr := ⟨fun x v B h => by cases h; intro z; cases z⟩
instance {K : PySem.W.Frag} {α : Type} {τ : Ty α} : NN (tList K τ) := ⟨fun x v B ⟨a, vs, e, _⟩ => by rw [e]; intro z; cases z⟩
instance {K : PySem.W.Frag} {α : Type} {ρ : TyT α} : NN (tTup K ρ) := ⟨fun x v B ⟨a, vs, e, _⟩ => by rw [e]; intro z; cases z⟩
instance {K : PySem.W.Frag} {α : Type} {τ : Ty α} : NN (tTups K τ) := ⟨fun x v B ⟨a, vs, e, _⟩ => by rw [e]; intro z; cases z⟩
instance {C : Addr} {names : List Str} {α : Type} {f : α → List Slot} : NN (tObj C names f) := ⟨fun x v B ⟨a, dx, vs, e, _⟩ => by rw [e]; intro z; cases z⟩
/-- says nothing of the heap -/
class Scal {α : Type} (τ : Ty α) : Prop where
  sc : ∀ x v B B', τ.rel x v B → τ.rel x v B'
instance : Scal tInt := ⟨fun _ _ _ _ h => h⟩
instance : Scal tBool := ⟨fun _ _ _ _ h => h⟩
instance : Scal tStr := ⟨fun _ _ _ _ h => h⟩
instance : Scal tNone := ⟨fun _ _ _ _ h => h⟩
instance {α : Type} {τ : Ty α} [Scal τ] : Scal (tOpt τ) := ⟨fun o v B B' h => by
  cases o with
  | none => exact h
  | some x => exact ⟨h.1, Scal.sc x v B B' h.2⟩⟩
/-- stands on tuples alone -/
class Safe {α : Type} (τ : Ty α) : Prop where
  sf : ∀ x v B B', (∀ a xs, B a = some (.tup xs) → B' a = some (.tup xs)) → (∀ a o u, B a = some (.frz o u) → B' a = some (.frz o u)) → τ.rel x v B → τ.rel x v B'
class SafeT {α : Type} (ρ : TyT α) : Prop where
  sf : ∀ x v B B', (∀ a xs, B a = some (.tup xs) → B' a = some (.tup xs)) → (∀ a o u, B a = some (.frz o u) → B' a = some (.frz o u)) → ρ.rel x v B → ρ.rel x v B'
instance : Safe tInt := ⟨fun _ _ _ _ _ _ h => h⟩
instance : Safe tBool := ⟨fun _ _ _ _ _ _ h => h⟩
instance : Safe tStr := ⟨fun _ _ _ _ _ _ h => h⟩
instance : Safe tNone := ⟨fun _ _ _ _ _ _ h => h⟩
instance {α : Type} {τ : Ty α} [Safe τ] : Safe (tOpt τ) := ⟨fun o v B B' h h2 r => by
  cases o with
  | none => exact r
  | some x => exact ⟨r.1, Safe.sf x v B B' h h2 r.2⟩⟩
instance {α : Type} {τ : Ty α} [Safe τ] : SafeT (tOne τ) := ⟨fun x vs B B' h h2 ⟨v, e, r⟩ => ⟨v, e, Safe.sf x v B B' h h2 r⟩⟩
instance {α β : Type} {τ : Ty α} {ρ : TyT β} [Safe τ] [SafeT ρ] : SafeT (tCons τ ρ) := ⟨fun x vs B B' h h2 ⟨v, ws, e, r, q⟩ => ⟨v, ws, e, Safe.sf _ v B B' h h2 r, SafeT.sf _ ws B B' h h2 q⟩⟩
theorem safe_sqt {K : PySem.W.Frag} {B B' : Hp} {a : Addr} {vs : List V} (h : ∀ a xs, B a = some (.tup xs) → B' a = some (.tup xs)) (h2 : ∀ a o u, B a = some (.frz o u) → B' a = some (.frz o u)) (s : SqT K B a vs) : SqT K B' a vs := by
  rcases s with (s | ⟨o, s⟩) | s
  · exact .inl (.inl (h _ _ s))
  · exact .inl (.inr ⟨o, h2 _ _ _ s⟩)
  · exact .inr s
instance {K : PySem.W.Frag} {α : Type} {ρ : TyT α} [SafeT ρ] : Safe (tTup K ρ) := ⟨fun x v B B' h h2 ⟨a, vs, e, s, p⟩ => ⟨a, vs, e, safe_sqt h h2 s, SafeT.sf x vs B B' h h2 p⟩⟩
instance {K : PySem.W.Frag} {α : Type} {τ : Ty α} [Safe τ] : Safe (tTups K τ) := ⟨fun x v B B' h h2 ⟨a, vs, e, s, p⟩ => ⟨a, vs, e, safe_sqt h h2 s, Paired.mapP p fun x u r => Safe.sf x u B B' h h2 r⟩⟩

/-! ### results that may fail -/
def o1 {α β : Type} (f : α → β) (a : Option α) : Option β := a.bind fun x => some (f x)
def o2 {α β γ : Type} (f : α → β → Option γ) (a : Option α) (b : Option β) : Option γ := a.bind fun x => b.bind fun y => f x y
def a2 {α β : Type} (a : Option α) (b : Option β) : Option (α × β) := a.bind fun x => b.bind fun y => some (x, y)
def andO (a b : Option Bool) : Option Bool := a.bind fun x => if x = true then b else some false
def orO (a b : Option Bool) : Option Bool := a.bind fun x => if x = true then some true else b
theorem o1_some {α β : Type} (f : α → β) (x : α) : o1 f (some x) = some (f x) := rfl
theorem o2_some {α β γ : Type} (f : α → β → Option γ) (x : α) (y : β) : o2 f (some x) (some y) = f x y := rfl
theorem a2_some {α β : Type} (x : α) (y : β) : a2 (some x) (some y) = some (x, y) := rfl
theorem andO_some (a b : Bool) : andO (some a) (some b) = some (a && b) := by cases a <;> rfl
theorem orO_some (a b : Bool) : orO (some a) (some b) = some (a || b) := by cases a <;> rfl
theorem o1_of {α β : Type} {f : α → β} {a : Option α} {z : β} (h : o1 f a = some z) : ∃ x, a = some x ∧ f x = z := by
  cases a with
  | none => cases h
  | some x => exact ⟨x, rfl, Option.some.inj h⟩
theorem o2_of {α β γ : Type} {f : α → β → Option γ} {a : Option α} {b : Option β} {z : γ} (h : o2 f a b = some z) : ∃ x y, a = some x ∧ b = some y ∧ f x y = some z := by
  cases a with
  | none => cases h
  | some x =>
    cases b with
    | none => cases h
    | some y => exact ⟨x, y, rfl, rfl, h⟩
theorem a2_of {α β : Type} {a : Option α} {b : Option β} {z : α × β} (h : a2 a b = some z) : a = some z.1 ∧ b = some z.2 := by
  cases a with
  | none => cases h
  | some x =>
    cases b with
    | none => cases h
    | some y =>
      have e : (x, y) = z := Option.some.inj h
      subst e
      exact ⟨rfl, rfl⟩
theorem bind_of {α β : Type} {a : Option α} {f : α → Option β} {z : β} (h : a.bind f = some z) : ∃ x, a = some x ∧ f x = some z := by
  cases a with
  | none => cases h
  | some x => exact ⟨x, rfl, h⟩

/-! ### the judgements -/
section
variable (X : Cx)
def wE (e : Expr) : TE := fun σ H Q => ∀ (pins : List (Addr × Obj)) (s : Shared), Inv X pins σ H s → wpAny (model X.prog X.w) X.A (eval e X.env) (EP X pins σ Q) X.xe s
def wT (e : Expr) : TT := fun σ H Q => ∀ (pins : List (Addr × Obj)) (s : Shared), Inv X pins σ H s → wpAny (model X.prog X.w) X.A (isTrue e X.env (eval e X.env)) (TP X pins σ Q) X.xe s
def wW (e : Expr) : TT := fun σ H Q => ∀ (whole : Sem Value) (pins : List (Addr × Obj)) (s : Shared), Inv X pins σ H s → wpAny (model X.prog X.w) X.A (isTrue e X.env whole) (TP X pins σ Q) X.xe s
def wA (es : List Expr) : TA := fun σ H Q => ∀ (pos : Pos) (pins : List (Addr × Obj)) (s : Shared), Inv X pins σ H s → wpAny (model X.prog X.w) X.A (spliced (backTo pos (starEach es X.env))) (AP X pins σ Q) X.xe s
def wC (op : CmpOp) (a b : Expr) : TE := fun σ H Q => ∀ (pins : List (Addr × Obj)) (s : Shared), Inv X pins σ H s →
    wpAny (model X.prog X.w) X.A (eval a X.env) (fun v s₁ => wpAny (model X.prog X.w) X.A (eval b X.env) (fun u s₂ => wpAny (model X.prog X.w) X.A (compareOp op v u) (EP X pins σ Q) X.xe s₂) X.xe s₁) X.xe s
def wS (st : Stmt) : TS := fun D σ H => ∀ (pins : List (Addr × Obj)) (s : Shared), Inv X pins σ H s → wpAny (model X.prog X.w) X.A (exec st X.env) (SP X pins D) X.xe s
def wSs (st : List Stmt) : TS := fun D σ H => ∀ (pins : List (Addr × Obj)) (s : Shared), Inv X pins σ H s → wpAny (model X.prog X.w) X.A (execs st X.env) (SP X pins D) X.xe s
end
section
variable {X : Cx}
theorem peW {e : Expr} : PE X e (wE X e) := ⟨fun pins s _ _ _ I h => h pins s I⟩
theorem ptW {e : Expr} : PT X e (wT X e) := ⟨fun pins s _ _ _ I h => h pins s I⟩
theorem pwW {e : Expr} : PW X e (wW X e) := ⟨fun wh pins s _ _ _ I h => h wh pins s I⟩
theorem paW {es : List Expr} : PA X es (wA X es) := ⟨fun pos pins s _ _ _ I h => h pos pins s I⟩
theorem pcW {op : CmpOp} {a b : Expr} : PC X op a b (wC X op a b) := ⟨fun pins s _ _ _ I h => h pins s I⟩
theorem psW {st : Stmt} : PS X st (wS X st) := ⟨fun pins s _ _ _ I h => h pins s I⟩
theorem pssW {st : List Stmt} : PSs X st (wSs X st) := ⟨fun pins s _ _ _ I h => h pins s I⟩
theorem wE_of {e : Expr} {t : TE} (h : PE X e t) {σ : L2.St} {H : Hp} {Q : VK} (q : t σ H Q) : wE X e σ H Q := fun pins s I => h.run pins s σ H Q I q
theorem wT_of {e : Expr} {t : TT} (h : PT X e t) {σ : L2.St} {H : Hp} {Q : Bool → Hp → Prop} (q : t σ H Q) : wT X e σ H Q := fun pins s I => h.run pins s σ H Q I q
theorem wW_of {e : Expr} {t : TT} (h : PW X e t) {σ : L2.St} {H : Hp} {Q : Bool → Hp → Prop} (q : t σ H Q) : wW X e σ H Q := fun wh pins s I => h.run wh pins s σ H Q I q
theorem wA_of {es : List Expr} {t : TA} (h : PA X es t) {σ : L2.St} {H : Hp} {Q : List V → Hp → Prop} (q : t σ H Q) : wA X es σ H Q := fun pos pins s I => h.run pos pins s σ H Q I q
theorem wC_of {op : CmpOp} {a b : Expr} {t : TE} (h : PC X op a b t) {σ : L2.St} {H : Hp} {Q : VK} (q : t σ H Q) : wC X op a b σ H Q := fun pins s I => h.run pins s σ H Q I q
theorem wS_of {st : Stmt} {t : TS} (h : PS X st t) {σ : L2.St} {H : Hp} {D : Ends} (q : t D σ H) : wS X st D σ H := fun pins s I => h.run pins s σ H D I q
theorem wSs_of {st : List Stmt} {t : TS} (h : PSs X st t) {σ : L2.St} {H : Hp} {D : Ends} (q : t D σ H) : wSs X st D σ H := fun pins s I => h.run pins s σ H D I q
end
section
variable (X : Cx)
/-- e comes to x (of the base) wherever m is x -/
def EVm (e : Expr) (Γ : List Slot) {α : Type} (m : Option α) (τ : Ty α) : Prop := ∀ x, m = some x → ∀ B M σ H (Q : VK), In B M H → OkS Γ σ B M → (∀ v B' H', Gr B H B' H' → τ.rel x v B' → Q v H') → wE X e σ H Q
/-- e comes to a new owned x -/
def EOm (e : Expr) (Γ : List Slot) {α : Type} (m : Option α) (μ : α → MO) : Prop := ∀ x, m = some x → ∀ B M σ H (Q : VK), In B M H → OkS Γ σ B M →
  (∀ v B' M' H', Gr B H B' H' → Same M' H' → (∀ a o, M' a = some o → H a = none ∧ B' a = none) → (μ x).p v B' M' → Q v H') → wE X e σ H Q
def ETm (e : Expr) (Γ : List Slot) (m : Option Bool) : Prop := ∀ b, m = some b → ∀ B M σ H (Q : Bool → Hp → Prop), In B M H → OkS Γ σ B M → (∀ B' H', Gr B H B' H' → Q b H') → wT X e σ H Q
def EWm (e : Expr) (Γ : List Slot) (m : Option Bool) : Prop := ∀ b, m = some b → ∀ B M σ H (Q : Bool → Hp → Prop), In B M H → OkS Γ σ B M → (∀ B' H', Gr B H B' H' → Q b H') → wW X e σ H Q
def ECm (op : CmpOp) (a b : Expr) (Γ : List Slot) (m : Option Bool) : Prop := ∀ z, m = some z → ∀ B M σ H (Q : VK), In B M H → OkS Γ σ B M → (∀ B' H', Gr B H B' H' → Q (.bl z) H') → wC X op a b σ H Q
def EAm (es : List Expr) (Γ : List Slot) {α : Type} (m : Option α) (ρ : TyT α) : Prop := ∀ x, m = some x → ∀ B M σ H (Q : List V → Hp → Prop), In B M H → OkS Γ σ B M → (∀ vs B' H', Gr B H B' H' → ρ.rel x vs B' → Q vs H') → wA X es σ H Q
/-- a list's display -/
def ELm (es : List Expr) (Γ : List Slot) {α : Type} (m : Option (List α)) (τ : Ty α) : Prop := ∀ xs, m = some xs → xs.length = es.length ∧ ∀ B M σ H (Q : List V → Hp → Prop), In B M H → OkS Γ σ B M → (∀ vs B' H', Gr B H B' H' → Paired (fun x u => τ.rel x u B') xs vs → Q vs H') → wA X es σ H Q
/-- an operation of two values -/
def OpT (f : Value → Value → Sem Value) {α β γ : Type} (τa : Ty α) (τb : Ty β) (τc : Ty γ) (g : α → β → Option γ) : Prop :=
  ∀ x y z, g x y = some z → ∀ (pins : List (Addr × Obj)) (s : Shared) (σ : L2.St) v w u t B H (Q : VK), Inv X pins σ H s → Same B H → τa.rel x v B → τb.rel y w B → RelV v u → RelV w t →
    (∀ v' B' H', Gr B H B' H' → τc.rel z v' B' → Q v' H') → wpAny (model X.prog X.w) X.A (f u t) (EP X pins σ Q) X.xe s
/-- a call of a known value with one value, with two -/
def Call1 (f : Value) {α β : Type} (τa : Ty α) (τb : Ty β) (g : α → Option β) : Prop :=
  ∀ x z, g x = some z → ∀ (pins : List (Addr × Obj)) (s : Shared) (σ : L2.St) v u B H (Q : VK), Inv X pins σ H s → Same B H → τa.rel x v B → RelV v u →
    (∀ v' B' H', Gr B H B' H' → τb.rel z v' B' → Q v' H') → wpAny (model X.prog X.w) X.A (call f [u]) (EP X pins σ Q) X.xe s
end

section
variable {X : Cx} {Γ : List Slot} {e a b c : Expr} {es : List Expr} {pos p : Pos}
theorem ev_of_eo {α : Type} {m : Option α} {μ : α → MO} {τ : Ty α} (h : EOm X e Γ m μ) (hf : ∀ x, (μ x).fr = τ.P x := by intro _; rfl) : EVm X e Γ m τ := fun x hx B M σ H Q i ok q =>
  h x hx B M σ H Q i ok fun v B' M' H' g sm nw r => q v (un M' B') H' (g.frz (M := emp) sm nw) (by
    have k := (μ x).frz v B' M' (fun a o h => (nw a o h).2) r
    rw [hf x] at k
    exact k)
/-- reading owned things: a value that says nothing of the heap -/
theorem ev_fz {α : Type} {m : Option α} {τ : Ty α} [Scal τ] (h : EVm X e (fz Γ) m τ) : EVm X e Γ m τ := fun x hx B M σ H Q i ok q =>
  h x hx (un M B) emp σ H Q ⟨same_un i.m i.b, (fun _ _ z => nomatch z), Dj.emp _⟩ (ok.fz i.dj) fun v B' H' g r => q v B H' (Gr.heap i.b g.hh) (Scal.sc x v B' B r)
theorem et_fz {m : Option Bool} (h : ETm X e (fz Γ) m) : ETm X e Γ m := fun x hx B M σ H Q i ok q =>
  h x hx (un M B) emp σ H Q ⟨same_un i.m i.b, (fun _ _ z => nomatch z), Dj.emp _⟩ (ok.fz i.dj) fun B' H' g => q B H' (Gr.heap i.b g.hh)
/-! names, constants -/
theorem ev_var {i : Nat} {x : Str} {α : Type} {z : α} {τ : Ty α} (hΓ : sl Γ i = .val (τ.P z)) (hN : X.N[i]? = some x) (hv : Vis X.env.scope x) (hd : (x == ("__debug__" : Str)) = false := by decide) (hcd : (x == ("__classdict__" : Str)) = false := by decide) :
    EVm X (.Name x pos) Γ (some z) τ := fun y hy B M σ H Q i ok q => by
  obtain rfl : z = y := Option.some.inj hy
  obtain ⟨v, e, r⟩ := ok.val hΓ
  exact wE_of (pe_var hN hv hd hcd) ⟨v, e, q v B H (Gr.refl i.b) r⟩
theorem ev_int {i j} : EVm X (.Constant (.int i) j pos) Γ (some i) tInt := fun y hy B M σ H Q i ok q => wE_of pe_int (q _ B H (Gr.refl i.b) (by cases hy; rfl))
theorem ev_bl {k : Bool} {j} : EVm X (.Constant (.bool k) j pos) Γ (some k) tBool := fun y hy B M σ H Q i ok q => wE_of pe_bl (q _ B H (Gr.refl i.b) (by cases hy; rfl))
theorem ev_str {x : Str} {j} : EVm X (.Constant (.str x) j pos) Γ (some x) tStr := fun y hy B M σ H Q i ok q => wE_of pe_str (q _ B H (Gr.refl i.b) (by cases hy; rfl))
theorem ev_none {α : Type} {τ : Ty α} {j} : EVm X (.Constant .none j pos) Γ (some none) (tOpt τ) := fun y hy B M σ H Q i ok q => wE_of pe_non (q _ B H (Gr.refl i.b) (by cases hy; rfl))
theorem ev_nil {j} : EVm X (.Constant .none j pos) Γ (some ()) tNone := fun y hy B M σ H Q i ok q => wE_of pe_non (q _ B H (Gr.refl i.b) (by cases hy; rfl))
/-- a value where a value or None is wanted -/
theorem ev_opt {α : Type} {m : Option α} {τ : Ty α} [NN τ] (h : EVm X e Γ m τ) : EVm X e Γ (o1 some m) (tOpt τ) := fun y hy B M σ H Q i ok q => by
  obtain ⟨x, hx, rfl⟩ := o1_of hy
  exact h x hx B M σ H Q i ok fun v B' H' g r => q v B' H' g ⟨NN.nn x v B' r, r⟩
/-! arguments -/
theorem ea_nil : EAm X [] Γ (some ()) tNil := fun y hy B M σ H Q i ok q => wA_of pa_nil (q [] B H (Gr.refl i.b) rfl)
theorem ea_one {α : Type} {m : Option α} {τ : Ty α} (h : EVm X e Γ m τ) (hs : starEach [e] X.env = (false, eval e X.env) :: starEach [] X.env := by rfl) : EAm X [e] Γ m (tOne τ) := fun x hx B M σ H Q i ok q =>
  wA_of (pa_cons peW pa_nil hs) (h x hx B M σ H _ i ok fun v B' H' g r => q [v] B' H' g ⟨v, rfl, r⟩)
theorem ea_cons {α β : Type} {m : Option α} {τ : Ty α} {m' : Option β} {ρ : TyT β} (h : EVm X e Γ m τ) (h' : EAm X es Γ m' ρ) (hs : starEach (e :: es) X.env = (false, eval e X.env) :: starEach es X.env := by rfl) : EAm X (e :: es) Γ (a2 m m') (tCons τ ρ) := fun x hx B M σ H Q i ok q => by
  obtain ⟨h1, h2⟩ := a2_of hx
  refine wA_of (pa_cons peW paW hs) (h _ h1 B M σ H _ i ok fun v B1 H1 g1 r1 => ?_)
  exact h' _ h2 B1 M σ H1 _ (i.gr g1) (ok.mono g1.bb) fun vs B2 H2 g2 r2 => q (v :: vs) B2 H2 (g1.trans g2) ⟨v, vs, rfl, τ.mono _ v B1 B2 g2.bb r1, r2⟩
theorem el_nil {α : Type} {τ : Ty α} : ELm X [] Γ (some []) τ := fun y hy => ⟨by cases hy; rfl, fun B M σ H Q i ok q => wA_of pa_nil (q [] B H (Gr.refl i.b) (by cases hy; exact .nil))⟩
theorem el_cons {α : Type} {m : Option α} {τ : Ty α} {m' : Option (List α)} (h : EVm X e Γ m τ) (h' : ELm X es Γ m' τ) (hs : starEach (e :: es) X.env = (false, eval e X.env) :: starEach es X.env := by rfl) : ELm X (e :: es) Γ (o2 (fun x xs => some (x :: xs)) m m') τ := fun x hx => by
  obtain ⟨y, ys, h1, h2, h3⟩ := o2_of hx
  cases h3
  obtain ⟨l2, h2'⟩ := h' _ h2
  refine ⟨by rw [List.length_cons, List.length_cons, l2], fun B M σ H Q i ok q => ?_⟩
  refine wA_of (pa_cons peW paW hs) (h _ h1 B M σ H _ i ok fun v B1 H1 g1 r1 => ?_)
  exact h2' B1 M σ H1 _ (i.gr g1) (ok.mono g1.bb) fun vs B2 H2 g2 r2 => q (v :: vs) B2 H2 (g1.trans g2) (.cons (τ.mono _ v B1 B2 g2.bb r1) r2)
theorem ev_tup {α : Type} {m : Option α} {ρ : TyT α} {x1} (h : EAm X es Γ m ρ) (hl : ρ.len ≤ 100 := by decide) : EVm X (.Tuple es x1 pos) Γ m (tTup X.K ρ) := fun x hx B M σ H Q i ok q => by
  refine wE_of (pe_tup paW) (h x hx B M σ H _ i ok fun vs B' H' g r => ⟨?_, fun p hp => ?_⟩)
  · rw [ρ.hlen _ _ _ r]; exact Nat.le_trans hl (by decide)
  · refine q _ (upd B' p (.tup vs)) _ (g.trans (Gr.alloc g.bh hp)) ⟨p, vs, rfl, SqT.of upd_same, ρ.mono _ _ _ _ (Gr.alloc g.bh hp (o := .tup vs)).bb r⟩
theorem paired_len {α β : Type} {F : α → β → Prop} {xs : List α} {ys : List β} (h : Paired F xs ys) : xs.length = ys.length := Paired.length h
theorem eo_lst {α : Type} {m : Option (List α)} {τ : Ty α} (h : ELm X es Γ m τ) (hl : es.length ≤ 100 := by decide) : EOm X (.List es pos) Γ m (mList X.K τ) := fun x hx B M σ H Q i ok q => by
  obtain ⟨lx, h'⟩ := h x hx
  refine wE_of (pe_lst paW) (h' B M σ H _ i ok fun vs B' H' g r => ⟨?_, fun p hp => ?_⟩)
  · rw [← paired_len r, lx]; exact Nat.le_trans hl (by decide)
  · have hb : B' p = none := by
      cases z : B' p with
      | none => rfl
      | some u => rw [g.bh p u z] at hp; cases hp
    have hh : H p = none := by
      cases z : H p with
      | none => rfl
      | some u => rw [g.hh p u z] at hp; cases hp
    refine q _ B' (sing p (.lst vs)) _ (g.trans (Gr.heap g.bh (same_upd hp))) (fun a o z => ?_) (fun a o z => ?_) ⟨p, vs, rfl, rfl, r⟩
    · obtain ⟨e1, e2⟩ := sing_some z
      subst e1 e2
      exact upd_same
    · obtain ⟨e1, e2⟩ := sing_some z
      subst e1
      exact ⟨hh, hb⟩
/-! operators -/
theorem opT_of {f : Value → Value → Sem Value} {r : R2} (ho : OpR X f r) {α β γ : Type} {τa : Ty α} {τb : Ty β} {τc : Ty γ} {g : α → β → Option γ}
    (h : ∀ x y z, g x y = some z → ∀ v w B H (Q : VK), Same B H → τa.rel x v B → τb.rel y w B → (∀ v' B' H', Gr B H B' H' → τc.rel z v' B' → Q v' H') → r v w H Q) : OpT X f τa τb τc g :=
  fun x y z hz pins s σ v w u t B H Q I sb ra rb rv rw q => ho pins s σ H v w u t Q I rv rw (h x y z hz v w B H Q sb ra rb q)
theorem opII {f : Value → Value → Sem Value} {g : Int → Int → Int} (ho : OpR X f (rI0 fun i j => .int (g i j))) : OpT X f tInt tInt tInt (fun i j => some (g i j)) :=
  opT_of ho fun x y z hz v w B H Q sb ra rb q => ⟨x, y, ra, rb, q _ B H (Gr.refl sb) (by cases hz; rfl)⟩
theorem opIB {f : Value → Value → Sem Value} {g : Int → Int → Bool} (ho : OpR X f (rI0 fun i j => .bl (g i j))) : OpT X f tInt tInt tBool (fun i j => some (g i j)) :=
  opT_of ho fun x y z hz v w B H Q sb ra rb q => ⟨x, y, ra, rb, q _ B H (Gr.refl sb) (by cases hz; rfl)⟩
theorem opIC {f : Value → Value → Sem Value} {C : Int → Int → Prop} {g : Int → Int → Int} {k : Int → Int → Option Int} (ho : OpR X f (rI C fun i j => .int (g i j))) (hk : ∀ i j z, k i j = some z → C i j ∧ g i j = z) : OpT X f tInt tInt tInt k :=
  opT_of ho fun x y z hz v w B H Q sb ra rb q => ⟨x, y, ra, rb, (hk x y z hz).1, q _ B H (Gr.refl sb) (by show V.int (g x y) = V.int z; rw [(hk x y z hz).2])⟩
def mulG (i j : Int) : Option Int := if (-(2 ^ 64) < i ∧ i < 2 ^ 64) ∨ (-(2 ^ 64) < j ∧ j < 2 ^ 64) then some (i * j) else none
def divG (i j : Int) : Option Int := if 0 < j ∧ j < 1073741824 then some (i / j) else none
def modG (i j : Int) : Option Int := if 0 < j then some (i % j) else none
def shlG (i j : Int) : Option Int := if 0 ≤ j ∧ j ≤ 1000000 ∧ i.natAbs < 2 ^ 64 then some (i * 2 ^ j.toNat) else none
def shrG (i j : Int) : Option Int := if 0 ≤ j then some (i / 2 ^ j.toNat) else none
theorem ite_of {α : Type} {c : Prop} [Decidable c] {x z : α} (h : (if c then some x else none) = some z) : c ∧ x = z := by
  by_cases k : c
  · rw [if_pos k] at h; exact ⟨k, Option.some.inj h⟩
  · rw [if_neg k] at h; cases h
theorem ot_add : OpT X (binaryOp .Add) tInt tInt tInt (fun i j => some (i + j)) := opII op_add
theorem ot_sub : OpT X (binaryOp .Sub) tInt tInt tInt (fun i j => some (i - j)) := opII op_sub
theorem ot_mul : OpT X (binaryOp .Mult) tInt tInt tInt mulG := opIC op_mul fun i j z h => ⟨(ite_of h).1, (ite_of h).2⟩
theorem ot_div : OpT X (binaryOp .FloorDiv) tInt tInt tInt divG := opIC op_fdiv fun i j z h => ⟨(ite_of h).1, (ite_of h).2⟩
theorem ot_mod : OpT X (binaryOp .Mod) tInt tInt tInt modG := opIC op_mod fun i j z h => ⟨(ite_of h).1, (ite_of h).2⟩
theorem ot_shl : OpT X (binaryOp .LShift) tInt tInt tInt shlG := opIC op_shl fun i j z h => ⟨(ite_of h).1, (ite_of h).2⟩
theorem ot_shr : OpT X (binaryOp .RShift) tInt tInt tInt shrG := opIC op_shr fun i j z h => ⟨(ite_of h).1, (ite_of h).2⟩
theorem ot_and : OpT X (binaryOp .BitAnd) tInt tInt tInt (fun i j => some (Builtin.bitAnd i j)) := opII op_and
theorem oi_add : OpT X (inplaceOp .Add) tInt tInt tInt (fun i j => some (i + j)) := opII iop_add
theorem oi_sub : OpT X (inplaceOp .Sub) tInt tInt tInt (fun i j => some (i - j)) := opII iop_sub
theorem oc_lt : OpT X (compareOp .Lt) tInt tInt tBool (fun i j => some (decide (i < j))) := opIB op_lt
theorem oc_le : OpT X (compareOp .LtE) tInt tInt tBool (fun i j => some (decide (i ≤ j))) := opIB op_le
theorem oc_gt : OpT X (compareOp .Gt) tInt tInt tBool (fun i j => some (decide (j < i))) := opIB op_gt
theorem oc_ge : OpT X (compareOp .GtE) tInt tInt tBool (fun i j => some (decide (j ≤ i))) := opIB op_ge
theorem oc_eq : OpT X (compareOp .Eq) tInt tInt tBool (fun i j => some (decide (i = j))) :=
  opT_of op_eq fun x y z hz v w B H Q sb ra rb q => by
    cases ra; cases rb; cases hz
    exact ⟨rfl, q _ B H (Gr.refl sb) (by show V.bl _ = V.bl _; congr 1; simp)⟩
theorem oc_ne : OpT X (compareOp .NotEq) tInt tInt tBool (fun i j => some (!decide (i = j))) :=
  opT_of op_ne fun x y z hz v w B H Q sb ra rb q => by
    cases ra; cases rb; cases hz
    exact ⟨rfl, q _ B H (Gr.refl sb) (by show V.bl _ = V.bl _; congr 1; simp)⟩
theorem oc_eqS : OpT X (compareOp .Eq) tStr tStr tBool (fun i j => some (decide (i = j))) :=
  opT_of op_eq fun x y z hz v w B H Q sb ra rb q => by
    cases ra; cases rb; cases hz
    exact ⟨rfl, q _ B H (Gr.refl sb) (by show V.bl _ = V.bl _; congr 1; simp)⟩
theorem oc_neS : OpT X (compareOp .NotEq) tStr tStr tBool (fun i j => some (!decide (i = j))) :=
  opT_of op_ne fun x y z hz v w B H Q sb ra rb q => by
    cases ra; cases rb; cases hz
    exact ⟨rfl, q _ B H (Gr.refl sb) (by show V.bl _ = V.bl _; congr 1; simp)⟩
theorem oc_eqB : OpT X (compareOp .Eq) tBool tBool tBool (fun i j => some (decide (i = j))) :=
  opT_of op_eq fun x y z hz v w B H Q sb ra rb q => by
    cases ra; cases rb; cases hz
    exact ⟨rfl, q _ B H (Gr.refl sb) (by show V.bl _ = V.bl _; congr 1; simp)⟩
theorem oc_neB : OpT X (compareOp .NotEq) tBool tBool tBool (fun i j => some (!decide (i = j))) :=
  opT_of op_ne fun x y z hz v w B H Q sb ra rb q => by
    cases ra; cases rb; cases hz
    exact ⟨rfl, q _ B H (Gr.refl sb) (by show V.bl _ = V.bl _; congr 1; simp)⟩
variable {ma' : Option Int} {α β γ : Type} {τa : Ty α} {τb : Ty β} {τc : Ty γ} {ma : Option α} {mb : Option β} {mc : Option γ}
theorem ev_op {op : Operator} {g : α → β → Option γ} (ho : OpT X (binaryOp op) τa τb τc g) (ha : EVm X a Γ ma τa) (hb : EVm X b Γ mb τb) : EVm X (.BinOp a op b pos) Γ (o2 g ma mb) τc := fun z hz B M σ H Q i ok q => by
  obtain ⟨x, y, h1, h2, h3⟩ := o2_of hz
  intro pins s I
  refine wpAny_BinOp (bin peW peW (R := fun v w H2 => ∃ B2, Gr B H B2 H2 ∧ τa.rel x v B2 ∧ τb.rel y w B2) I ?_ fun v u s2 x' y' H2 I2 rx ry ⟨B2, g2, r1, r2⟩ => ?_)
  · refine ha x h1 B M σ H _ i ok fun v B1 H1 g1 r1 => hb y h2 B1 M σ H1 _ (i.gr g1) (ok.mono g1.bb) fun w B2 H2 g2 r2 => ⟨B2, g1.trans g2, τa.mono _ _ _ _ g2.bb r1, r2⟩
  · exact ho x y z h3 pins s2 σ x' y' v u B2 H2 Q I2 g2.bh r1 r2 rx ry fun v' B' H' g r => q v' B' H' (g2.trans g) r
theorem ec_op {op : CmpOp} {g : α → β → Option Bool} (ho : OpT X (compareOp op) τa τb tBool g) (ha : EVm X a Γ ma τa) (hb : EVm X b Γ mb τb) : ECm X op a b Γ (o2 g ma mb) := fun z hz B M σ H Q i ok q => by
  obtain ⟨x, y, h1, h2, h3⟩ := o2_of hz
  intro pins s I
  refine bin peW peW (R := fun v w H2 => ∃ B2, Gr B H B2 H2 ∧ τa.rel x v B2 ∧ τb.rel y w B2) I ?_ fun v u s2 x' y' H2 I2 rx ry ⟨B2, g2, r1, r2⟩ => ?_
  · refine ha x h1 B M σ H _ i ok fun v B1 H1 g1 r1 => hb y h2 B1 M σ H1 _ (i.gr g1) (ok.mono g1.bb) fun w B2 H2 g2 r2 => ⟨B2, g1.trans g2, τa.mono _ _ _ _ g2.bb r1, r2⟩
  · exact ho x y z h3 pins s2 σ x' y' v u B2 H2 Q I2 g2.bh r1 r2 rx ry fun v' B' H' g r => by
      cases r
      exact q B' H' (g2.trans g)
theorem ec_isN {j pos'} {m : Option (Option α)} (ha : EVm X a Γ m (tOpt τa)) : ECm X .Is a (.Constant .none j pos') Γ (o1 Option.isNone m) := fun z hz B M σ H Q i ok q => by
  obtain ⟨x, h1, rfl⟩ := o1_of hz
  refine wC_of (pc_isN peW) (ha x h1 B M σ H _ i ok fun v B' H' g r => ?_)
  cases x with
  | none =>
    have e : v = .non := r
    subst e
    exact q B' H' g
  | some y =>
    have e : decide (v = .non) = false := decide_eq_false r.1
    show Q (.bl (decide (v = .non))) H'
    rw [e]
    exact q B' H' g
theorem ec_notN {j pos'} {m : Option (Option α)} (ha : EVm X a Γ m (tOpt τa)) : ECm X .IsNot a (.Constant .none j pos') Γ (o1 Option.isSome m) := fun z hz B M σ H Q i ok q => by
  obtain ⟨x, h1, rfl⟩ := o1_of hz
  refine wC_of (pc_notN peW) (ha x h1 B M σ H _ i ok fun v B' H' g r => ?_)
  cases x with
  | none =>
    have e : v = .non := r
    subst e
    exact q B' H' g
  | some y =>
    have e : decide (v = .non) = false := decide_eq_false r.1
    show Q (.bl (!decide (v = .non))) H'
    rw [e]
    exact q B' H' g
theorem ev_cmp {op : CmpOp} {m : Option Bool} (h : ECm X op a b Γ m) (h1 : behindInMarks op b = false := by first | exact nobehind _ (by decide) (by decide) | rfl) : EVm X (.Compare a [op] [b] pos) Γ m tBool := fun z hz B M σ H Q i ok q =>
  wE_of (pe_cmp pcW h1) (h z hz B M σ H _ i ok fun B' H' g => q _ B' H' g rfl)
theorem et_cmp {op : CmpOp} {m : Option Bool} (h : ECm X op a b Γ m) (h1 : behindInMarks op b = false := by first | exact nobehind _ (by decide) (by decide) | rfl) : ETm X (.Compare a [op] [b] pos) Γ m := fun z hz B M σ H Q i ok q =>
  wT_of (pt_cmp pcW h1) (h z hz B M σ H _ i ok fun B' H' g => ⟨z, rfl, q B' H' g⟩)
theorem et_val {m : Option Bool} (h : EVm X e Γ m tBool) (he : ∀ whole, isTrue e X.env whole = (do let v ← whole; standAt e.pos; holding [v] (truthy v)) := by intro _; rfl) : ETm X e Γ m := fun z hz B M σ H Q i ok q =>
  wT_of (pt_val peW he) (h z hz B M σ H _ i ok fun v B' H' g r => ⟨z, r, q B' H' g⟩)
theorem ew_and1 {m : Option Bool} (h : ETm X a Γ m) : EWm X (.BoolOp .And [a] pos) Γ m := fun z hz B M σ H Q i ok q => wW_of (pw_and1 ptW) (h z hz B M σ H Q i ok q)
theorem ew_or1 {m : Option Bool} (h : ETm X a Γ m) : EWm X (.BoolOp .Or [a] pos) Γ m := fun z hz B M σ H Q i ok q => wW_of (pw_or1 ptW) (h z hz B M σ H Q i ok q)
theorem ew_and {m m' : Option Bool} {r : List Expr} (h : ETm X a Γ m) (h' : EWm X (.BoolOp .And (b :: r) pos) Γ m') : EWm X (.BoolOp .And (a :: b :: r) pos) Γ (andO m m') := fun z hz B M σ H Q i ok q => by
  obtain ⟨x, h1, h2⟩ := bind_of hz
  refine wW_of (pw_and ptW pwW) (h x h1 B M σ H _ i ok fun B1 H1 g1 => ?_)
  cases x with
  | true => exact h' z h2 B1 M σ H1 _ (i.gr g1) (ok.mono g1.bb) fun B2 H2 g2 => q B2 H2 (g1.trans g2)
  | false => cases h2; exact q B1 H1 g1
theorem ew_or {m m' : Option Bool} {r : List Expr} (h : ETm X a Γ m) (h' : EWm X (.BoolOp .Or (b :: r) pos) Γ m') : EWm X (.BoolOp .Or (a :: b :: r) pos) Γ (orO m m') := fun z hz B M σ H Q i ok q => by
  obtain ⟨x, h1, h2⟩ := bind_of hz
  refine wW_of (pw_or ptW pwW) (h x h1 B M σ H _ i ok fun B1 H1 g1 => ?_)
  cases x with
  | true => cases h2; exact q B1 H1 g1
  | false => exact h' z h2 B1 M σ H1 _ (i.gr g1) (ok.mono g1.bb) fun B2 H2 g2 => q B2 H2 (g1.trans g2)
theorem et_w {m : Option Bool} (h : EWm X e Γ m) : ETm X e Γ m := fun z hz B M σ H Q i ok q => wT_of pwW.pt (h z hz B M σ H Q i ok q)
theorem et_not {m : Option Bool} (h : ETm X a Γ m) : ETm X (.UnaryOp .Not a pos) Γ (o1 (! ·) m) := fun z hz B M σ H Q i ok q => by
  obtain ⟨x, h1, rfl⟩ := o1_of hz
  exact wT_of (pt_not ptW) (h x h1 B M σ H _ i ok fun B' H' g => q B' H' g)
theorem ev_not {m : Option Bool} (h : EVm X a Γ m tBool) : EVm X (.UnaryOp .Not a pos) Γ (o1 (! ·) m) tBool := fun z hz B M σ H Q i ok q => by
  obtain ⟨x, h1, rfl⟩ := o1_of hz
  exact wE_of (pe_not peW) (h x h1 B M σ H _ i ok fun v B' H' g r => ⟨x, r, q _ B' H' g rfl⟩)
theorem ev_bool1 {op} {m : Option Bool} (h : EVm X a Γ m tBool) : EVm X (.BoolOp op [a] pos) Γ m tBool := fun z hz B M σ H Q i ok q => wE_of (pe_one peW) (h z hz B M σ H Q i ok q)
theorem ev_and {m m' : Option Bool} {r : List Expr} (h : EVm X a Γ m tBool) (h' : EVm X (.BoolOp .And (b :: r) pos) Γ m' tBool) : EVm X (.BoolOp .And (a :: b :: r) pos) Γ (andO m m') tBool := fun z hz B M σ H Q i ok q => by
  obtain ⟨x, h1, h2⟩ := bind_of hz
  refine wE_of (pe_and peW peW) (h x h1 B M σ H _ i ok fun v B1 H1 g1 r1 => ⟨x, r1, ?_⟩)
  cases x with
  | true => exact h' z h2 B1 M σ H1 _ (i.gr g1) (ok.mono g1.bb) fun w B2 H2 g2 r2 => q w B2 H2 (g1.trans g2) r2
  | false => cases h2; exact q _ B1 H1 g1 rfl
theorem ev_or {m m' : Option Bool} {r : List Expr} (h : EVm X a Γ m tBool) (h' : EVm X (.BoolOp .Or (b :: r) pos) Γ m' tBool) : EVm X (.BoolOp .Or (a :: b :: r) pos) Γ (orO m m') tBool := fun z hz B M σ H Q i ok q => by
  obtain ⟨x, h1, h2⟩ := bind_of hz
  refine wE_of (pe_or peW peW) (h x h1 B M σ H _ i ok fun v B1 H1 g1 r1 => ⟨x, r1, ?_⟩)
  cases x with
  | true => cases h2; exact q _ B1 H1 g1 rfl
  | false => exact h' z h2 B1 M σ H1 _ (i.gr g1) (ok.mono g1.bb) fun w B2 H2 g2 r2 => q w B2 H2 (g1.trans g2) r2
theorem ev_ifE {mt : Option Bool} {m m' : Option α} (ht : ETm X c Γ mt) (h : EVm X a Γ m τa) (h' : EVm X b Γ m' τa) : EVm X (.IfExp c a b pos) Γ (mt.bind fun k => if k = true then m else m') τa := fun z hz B M σ H Q i ok q => by
  obtain ⟨x, h1, h2⟩ := bind_of hz
  refine wE_of (pe_ifExp ptW peW peW) (ht x h1 B M σ H _ i ok fun B1 H1 g1 => ?_)
  cases x with
  | true => exact h z h2 B1 M σ H1 _ (i.gr g1) (ok.mono g1.bb) fun w B2 H2 g2 r2 => q w B2 H2 (g1.trans g2) r2
  | false => exact h' z h2 B1 M σ H1 _ (i.gr g1) (ok.mono g1.bb) fun w B2 H2 g2 r2 => q w B2 H2 (g1.trans g2) r2
theorem ev_neg (h : EVm X a Γ ma' tInt) : EVm X (.UnaryOp .USub a pos) Γ (o1 (fun i => -i) ma') tInt := fun z hz B M σ H Q i ok q => by
  obtain ⟨x, h1, rfl⟩ := o1_of hz
  exact wE_of (pe_un un_neg peW) (h x h1 B M σ H _ i ok fun v B' H' g r => ⟨x, r, q _ B' H' g rfl⟩)
/-! attributes -/
structure FldOk (K : PySem.W.Frag) (τo : Ty α) (nm : Str) (τ : Ty β) (h : α → β) : Prop where
  get : ∀ x v B, τo.rel x v B → ∃ a C dx fs w, v = .ref a ∧ B a = some (.ins C dx fs) ∧ Cls K C ∧ NoAttr K C nm ∧ fs.lookup nm = some w ∧ τ.rel (h x) w B
theorem ev_fld {nm : Str} {h : α → β} (hf : FldOk X.K τa nm τb h) (he : EVm X e Γ ma τa) (hb : attributeBase e nm X.env (eval e X.env) = eval e X.env := by rfl) : EVm X (.Attribute e nm pos) Γ (o1 h ma) τb := fun z hz B M σ H Q i ok q => by
  obtain ⟨x, h1, rfl⟩ := o1_of hz
  refine wE_of (pe_fld peW hb) (he x h1 B M σ H _ i ok fun v B' H' g r => ?_)
  obtain ⟨a, C, dx, fs, w, e, ea, c, n, l, r'⟩ := hf.get x v B' r
  exact ⟨a, C, dx, fs, w, e, g.bh _ _ ea, c, n, l, q w B' H' g r'⟩
/-- the j-th thing of a tuple -/
structure TAt (ρ : TyT α) (j : Nat) (τ : Ty β) (g : α → β) : Prop where
  get : ∀ x vs B, ρ.rel x vs B → ∃ v, vs[j]? = some v ∧ τ.rel (g x) v B
theorem at_one : TAt (tOne τa) 0 τa (fun x => x) := ⟨fun x vs B ⟨v, e, r⟩ => ⟨v, by rw [e]; rfl, r⟩⟩
theorem at_zero {ρ : TyT β} : TAt (tCons τa ρ) 0 τa Prod.fst := ⟨fun x vs B ⟨v, ws, e, r, _⟩ => ⟨v, by rw [e]; rfl, r⟩⟩
theorem at_succ {ρ : TyT β} {j : Nat} {g : β → γ} (h : TAt ρ j τc g) : TAt (tCons τa ρ) (j + 1) τc (fun x => g x.2) := ⟨fun x vs B ⟨v, ws, e, r, q⟩ => by
  obtain ⟨u, h1, h2⟩ := h.get x.2 ws B q
  exact ⟨u, by rw [e]; exact h1, h2⟩⟩
theorem zip_look {f : Str} {v : V} : ∀ {names : List Str} {vs : List V} {j : Nat}, names.Nodup → names[j]? = some f → vs[j]? = some v → (names.zip vs).lookup f = some v
  | [], _, _, _, h, _ => by simp at h
  | _ :: _, [], _, _, _, h => by simp at h
  | n :: names, u :: vs, 0, nd, h, k => by
    simp at h k
    subst h k
    simp [List.zip_cons_cons, List.lookup_cons]
  | n :: names, u :: vs, j + 1, nd, h, k => by
    have h' : names[j]? = some f := by simpa using h
    have k' : vs[j]? = some v := by simpa using k
    have hn : f ≠ n := fun e => (List.nodup_cons.mp nd).1 (by rw [← e]; exact List.mem_of_getElem? h')
    rw [List.zip_cons_cons, List.lookup_cons]
    rw [show (f == n) = false from beq_eq_false_iff_ne.mpr hn]
    exact zip_look (List.nodup_cons.mp nd).2 h' k'
theorem fldOk {K : PySem.W.Frag} {C : Addr} {names : List Str} {sf : α → List Slot} {j : Nat} {nm : Str} {h : α → β} (c : Cls K C) (n : NoAttr K C nm) (nd : names.Nodup) (hj : names[j]? = some nm) (hs : ∀ x, sl (sf x) j = .val (τb.P (h x))) :
    FldOk K (tObj C names sf) nm τb h := ⟨fun x v B ⟨a, dx, vs, e, s, l, k⟩ => by
  obtain ⟨w, h1, h2⟩ := k.val (hs x)
  have h1' : vs[j]? = some w := by
    rw [List.getElem?_map] at h1
    cases q : vs[j]? with
    | none => rw [q] at h1; cases h1
    | some u => rw [q] at h1; cases h1; rfl
  exact ⟨a, C, dx, _, w, e, s, c, n, zip_look nd hj h1', h2⟩⟩
end
end G
/-! G3: promises, calls, statements, loops. -/
namespace G
open PySem L2

/-! ### promises -/
def spF {α β : Type} (ρ : TyT α) (fm : α → Option β) (τ : Ty β) : Sp := fun vs H Q _ => ∃ B x y, Same B H ∧ ρ.rel x vs B ∧ fm x = some y ∧ ∀ v B' H', Gr B H B' H' → τ.rel y v B' → Q v H'
/-- the result is new and owned -/
def spO {α β : Type} (ρ : TyT α) (fm : α → Option β) (μ : β → MO) : Sp := fun vs H Q _ => ∃ B x y, Same B H ∧ ρ.rel x vs B ∧ fm x = some y ∧
  ∀ v B' M' H', Gr B H B' H' → Same M' H' → (∀ a o, M' a = some o → H a = none ∧ B' a = none) → (μ y).p v B' M' → Q v H'
/-- the first argument is owned, and changes -/
def spM {γ α β : Type} (χ : γ → MO) (ρ : TyT α) (fm : γ → α → Option (γ × β)) (τ : Ty β) : Sp := fun vs H Q _ => ∃ B M g x r u ws, vs = u :: ws ∧ In B M H ∧ (χ g).p u B M ∧ ρ.rel x ws B ∧ fm g x = some r ∧
  ∀ v B' M' H', Stp B M H B' M' H' → (χ r.1).p u B' M' → τ.rel r.2 v B' → Q v H'
/-- __init__: a bare instance comes, and an owned thing goes -/
def spI {α β : Type} (C : Addr) (ρ : TyT α) (im : α → Option β) (μ : β → MO) : Sp := fun vs H Q _ => ∃ B M x y u ws, vs = u :: ws ∧ In B M H ∧ (mObj C [] []).p u B M ∧ ρ.rel x ws B ∧ im x = some y ∧
  ∀ B' M' H', Stp B M H B' M' H' → (μ y).p u B' M' → Q .non H'
section
variable (P : Program) (w : World) (K : PySem.W.Frag) (mg : Str → Option Value) (base : Heap)
def Dfn (nm : Str) (k : Nat) (ds : List V) (sp : Sp) : Prop := ∃ f fd ps dv, mg nm = some (.ref f) ∧ PySem.W.keepIn K (.ref f) = true ∧ Binds K fd ps dv ∧ Vals ds dv ∧ FnOk P w K mg base CX0 k f fd ps sp
def Mth (C : Addr) (nm : Str) (k : Nat) (ds : List V) (sp : Sp) : Prop := ∃ f fd ps dv, Cls K C ∧ Meth K C nm f ∧ Binds K fd ps dv ∧ Vals ds dv ∧ FnOk P w K mg base CX0 k f fd ps sp
def Mak (cn : Str) (C : Addr) (k : Nat) (ds : List V) (sp : Sp) : Prop := ∃ f fd ps dv, mg cn = some (.ref C) ∧ Mk K C f ∧ Binds K fd ps dv ∧ Vals ds dv ∧ FnOk P w K mg base CX0 k f fd ps sp
end

section
variable {X : Cx} {Γ : List Slot} {e a b c : Expr} {es : List Expr} {pos p apos : Pos} {nm : Str} {k : Nat} {α β γ δ : Type}
theorem ev_callD {ρ : TyT α} {ρ' : TyT δ} {fm : α → Option β} {τ : Ty β} {ds : List V} {m : Option δ} (ext : δ → α) (D : Dfn X.prog X.w X.K X.mg X.base nm k ds (spF ρ fm τ)) (hx : ∀ x vs B, ρ'.rel x vs B → ρ.rel (ext x) (vs ++ ds) B) (hr : Room k X.A) (hg : Gl X nm) (ha : EAm X (e :: es) Γ m ρ')
    (hdb : (nm == ("__debug__" : Str)) = false := by decide) (he : starEach (e :: es) X.env = (false, eval e X.env) :: starEach es X.env := by rfl) (hpl : (backTo pos (starEach es X.env)).any (·.1) = false := by rfl) :
    EVm X (.Call (.Name nm p) (e :: es) [] pos) Γ (m.bind fun x => fm (ext x)) τ := fun z hz B M σ H Q i ok q => by
  obtain ⟨x, h1, h2⟩ := bind_of hz
  obtain ⟨f, fd, ps, dv, mgn, kp, bi, vd, F⟩ := D
  refine wE_of (pe_call F hr hg mgn kp bi vd pass0 paW hdb he hpl) (ha x h1 B M σ H _ i ok fun vs B1 H1 g1 r1 => ?_)
  exact ⟨B1, ext x, z, g1.bh, hx x vs B1 r1, h2, fun v B2 H2 g2 r2 => q v B2 H2 (g1.trans g2) r2⟩
theorem ev_call {ρ : TyT α} {fm : α → Option β} {τ : Ty β} {m : Option α} (D : Dfn X.prog X.w X.K X.mg X.base nm k [] (spF ρ fm τ)) (hr : Room k X.A) (hg : Gl X nm) (ha : EAm X (e :: es) Γ m ρ)
    (hdb : (nm == ("__debug__" : Str)) = false := by decide) (he : starEach (e :: es) X.env = (false, eval e X.env) :: starEach es X.env := by rfl) (hpl : (backTo pos (starEach es X.env)).any (·.1) = false := by rfl) :
    EVm X (.Call (.Name nm p) (e :: es) [] pos) Γ (m.bind fm) τ := ev_callD (fun x => x) D (fun x vs B r => by rw [List.append_nil]; exact r) hr hg ha hdb he hpl
theorem eo_call {ρ : TyT α} {fm : α → Option β} {μ : β → MO} {m : Option α} (D : Dfn X.prog X.w X.K X.mg X.base nm k [] (spO ρ fm μ)) (hr : Room k X.A) (hg : Gl X nm) (ha : EAm X (e :: es) Γ m ρ)
    (hdb : (nm == ("__debug__" : Str)) = false := by decide) (he : starEach (e :: es) X.env = (false, eval e X.env) :: starEach es X.env := by rfl) (hpl : (backTo pos (starEach es X.env)).any (·.1) = false := by rfl) :
    EOm X (.Call (.Name nm p) (e :: es) [] pos) Γ (m.bind fm) μ := fun z hz B M σ H Q i ok q => by
  obtain ⟨x, h1, h2⟩ := bind_of hz
  obtain ⟨f, fd, ps, dv, mgn, kp, bi, vd, F⟩ := D
  refine wE_of (pe_call F hr hg mgn kp bi vd pass0 paW hdb he hpl) (ha x h1 B M σ H _ i ok fun vs B1 H1 g1 r1 => ?_)
  cases vd
  refine ⟨B1, x, z, g1.bh, by rw [List.append_nil]; exact r1, h2, fun v B2 M2 H2 g2 s2 n2 r2 => q v B2 M2 H2 (g1.trans g2) s2 (fun a o h => ⟨?_, (n2 a o h).2⟩) r2⟩
  cases z : H a with
  | none => rfl
  | some u => have := g1.hh a u z; rw [(n2 a o h).1] at this; cases this
/-- an instance of the class at C that has no attribute m -/
def IsIns (τ : Ty α) (C : Addr) (m : Str) : Prop := ∀ x v B, τ.rel x v B → ∃ a dx fs, v = .ref a ∧ B a = some (.ins C dx fs) ∧ fs.lookup m = none
theorem zip_none {f : Str} : ∀ {names : List Str} {vs : List V}, f ∉ names → (names.zip vs).lookup f = none
  | [], _, _ => rfl
  | _ :: _, [], _ => rfl
  | n :: names, u :: vs, h => by
    rw [List.zip_cons_cons, List.lookup_cons, show (f == n) = false from beq_eq_false_iff_ne.mpr (fun e => h (by rw [e]; exact List.mem_cons_self ..))]
    exact zip_none fun q => h (List.mem_cons_of_mem _ q)
theorem isIns {C : Addr} {names : List Str} {sf : α → List Slot} {m : Str} (h : m ∉ names) : IsIns (tObj C names sf) C m := fun x v B ⟨a, dx, vs, e, s, _, _⟩ => ⟨a, dx, _, e, s, zip_none h⟩
theorem ev_meth {C : Addr} {τs : Ty γ} {ρ : TyT α} {fm : γ × α → Option β} {τ : Ty β} {ms : Option γ} {m : Option α} {pl : Sem Bool} (D : Mth X.prog X.w X.K X.mg X.base C nm k [] (spF (tCons τs ρ) fm τ)) (hi : IsIns τs C nm) (hr : Room k X.A) (ho : EVm X a Γ ms τs) (ha : EAm X (e :: es) Γ m ρ)
    (hst : starEach (e :: es) X.env = (false, eval e X.env) :: starEach es X.env := by rfl) (hpl : (backTo pos (starEach es X.env)).any (·.1) = false := by rfl)
    (ht : eval (.Call (.Attribute a nm apos) (e :: es) [] pos) X.env = (do
      let ov ← eval a X.env
      standAt apos.atName
      let (f, first) ← holding [ov] (getMethod ov nm pl)
      callWith pos f first (backTo pos (starEach (e :: es) X.env)) (backToKw pos (keywordEach [] X.env))) := by rfl) :
    EVm X (.Call (.Attribute a nm apos) (e :: es) [] pos) Γ ((a2 ms m).bind fm) τ := fun z hz B M σ H Q i ok q => by
  obtain ⟨x, h1, h2⟩ := bind_of hz
  obtain ⟨h3, h4⟩ := a2_of h1
  obtain ⟨f, fd, ps, dv, hc, me, bi, vd, F⟩ := D
  refine wE_of (pe_meth peW hc me F hr bi vd pass0 paW hst hpl ht) (ho x.1 h3 B M σ H _ i ok fun v B1 H1 g1 r1 => ?_)
  obtain ⟨a, dx, fs, e1, e2, e3⟩ := hi x.1 v B1 r1
  refine ⟨a, dx, fs, e1, g1.bh _ _ e2, e3, ?_⟩
  refine ha x.2 h4 B1 M σ H1 _ (i.gr g1) (ok.mono g1.bb) fun vs B2 H2 g2 r2 => ?_
  cases vd
  rw [List.append_nil]
  exact ⟨B2, x, z, g2.bh, ⟨v, vs, rfl, τs.mono _ v _ _ g2.bb r1, r2⟩, h2, fun v' B3 H3 g3 r3 => q v' B3 H3 ((g1.trans g2).trans g3) r3⟩
theorem ev_meth0 {C : Addr} {τs : Ty γ} {fm : γ → Option β} {τ : Ty β} {ms : Option γ} {pl : Sem Bool} (D : Mth X.prog X.w X.K X.mg X.base C nm k [] (spF (tOne τs) fm τ)) (hi : IsIns τs C nm) (hr : Room k X.A) (ho : EVm X a Γ ms τs)
    (ht : eval (.Call (.Attribute a nm apos) [] [] pos) X.env = (do
      let ov ← eval a X.env
      standAt apos.atName
      let (f, first) ← holding [ov] (getMethod ov nm pl)
      callWith pos f first (backTo pos (starEach [] X.env)) (backToKw pos (keywordEach [] X.env))) := by rfl) :
    EVm X (.Call (.Attribute a nm apos) [] [] pos) Γ (ms.bind fm) τ := fun z hz B M σ H Q i ok q => by
  obtain ⟨x, h1, h2⟩ := bind_of hz
  obtain ⟨f, fd, ps, dv, hc, me, bi, vd, F⟩ := D
  refine wE_of (pe_meth0 peW hc me F hr bi vd pass0 ht) (ho x h1 B M σ H _ i ok fun v B1 H1 g1 r1 => ?_)
  obtain ⟨a, dx, fs, e1, e2, e3⟩ := hi x v B1 r1
  refine ⟨a, dx, fs, e1, g1.bh _ _ e2, e3, ?_⟩
  cases vd
  exact ⟨B1, x, z, g1.bh, ⟨v, rfl, r1⟩, h2, fun v' B3 H3 g3 r3 => q v' B3 H3 (g1.trans g3) r3⟩
/-- C(..): a new owned instance -/
theorem eo_make {C : Addr} {ρ : TyT α} {ρ' : TyT δ} {im : α → Option β} {μ : β → MO} {ds : List V} {m : Option δ} (ext : δ → α) (D : Mak X.prog X.w X.K X.mg X.base nm C k ds (spI C ρ im μ)) (hx : ∀ x vs B, ρ'.rel x vs B → ρ.rel (ext x) (vs ++ ds) B) (hr : Room (k + 1) X.A) (hg : Gl X nm) (ha : EAm X (e :: es) Γ m ρ')
    (hdb : (nm == ("__debug__" : Str)) = false := by decide) (he : starEach (e :: es) X.env = (false, eval e X.env) :: starEach es X.env := by rfl) (hpl : (backTo pos (starEach es X.env)).any (·.1) = false := by rfl) :
    EOm X (.Call (.Name nm p) (e :: es) [] pos) Γ (m.bind fun x => im (ext x)) μ := fun z hz B M σ H Q i ok q => by
  obtain ⟨x, h1, h2⟩ := bind_of hz
  obtain ⟨f, fd, ps, dv, mgn, mk, bi, vd, F⟩ := D
  refine wE_of (pe_make mk F hr hg mgn bi vd pass0 paW hdb he hpl) (ha x h1 B M σ H _ i ok fun vs B1 H1 g1 r1 => ?_)
  intro u dx hu hdx hne
  have hBu : ∀ (a : Addr), H1 a = none → B1 a = none := fun a h => by
    cases z : B1 a with
    | none => rfl
    | some o => rw [g1.bh a o z] at h; cases h
  have hH : ∀ (a : Addr), H1 a = none → H a = none := fun a h => by
    cases z : H a with
    | none => rfl
    | some o => rw [g1.hh a o z] at h; cases h
  have s1 : Same H1 (upd (upd H1 dx (.own u)) u (.ins C dx [])) := fun a o h => by
    rw [upd_ne (ne_of_none h hu), upd_ne (ne_of_none h hdx)]
    exact h
  have i2 : In B1 (sing u (.ins C dx [])) (upd (upd H1 dx (.own u)) u (.ins C dx [])) := by
    refine ⟨g1.bh.trans s1, fun a o h => ?_, fun a o h => ?_⟩
    · obtain ⟨e1, e2⟩ := sing_some h
      subst e1 e2
      exact upd_same
    · obtain ⟨e1, e2⟩ := sing_some h
      subst e1
      exact hBu _ hu
  refine ⟨B1, sing u (.ins C dx []), ext x, z, .ref u, vs ++ ds, rfl, i2, ?_, hx x vs B1 r1, h2, fun B2 M2 H2 st r => ⟨rfl, ?_⟩⟩
  · exact ⟨u, dx, [], emp, rfl, (un_emp _).symm, (Dj.emp _).symm, rfl, rfl⟩
  · have hn : ∀ a o, H1 a = some o → sing u (.ins C dx []) a = none := fun a o h => sing_ne (ne_of_none h hu)
    have gg : Gr B1 H1 B2 H2 := ⟨st.bb, fun a o h => st.fr a o (s1 a o h) (hn a o h), st.i.b, fun a o h nb => st.newB a o (s1 a o h) nb (hn a o h)⟩
    refine q (.ref u) B2 M2 H2 (g1.trans gg) st.i.m (fun a o h => ⟨?_, st.i.dj a o h⟩) r
    refine hH a ?_
    cases z : H1 a with
    | none => rfl
    | some o' => rw [st.newM a o' (s1 a o' z) (hn a o' z)] at h; cases h
end

/-! ### statements -/
inductive Oc where
  | nx (Γ : List Slot)
  | bk (Γ : List Slot)
  | ct (Γ : List Slot)
  | rt (post : V → Hp → Hp → Prop)
  | fn (post : V → Hp → Hp → Prop)
  | dead
def Cont (c : Oc) (D : Ends) (B M H : Hp) : Prop := match c with
  | .nx Γ => ∀ σ' B' M' H', Stp B M H B' M' H' → OkS Γ σ' B' M' → D.nx σ' H'
  | .bk Γ => ∀ σ' B' M' H', Stp B M H B' M' H' → OkS Γ σ' B' M' → D.bk σ' H'
  | .ct Γ => ∀ σ' B' M' H', Stp B M H B' M' H' → OkS Γ σ' B' M' → D.ct σ' H'
  | .rt post => ∀ v B' M' H', Stp B M H B' M' H' → post v B' M' → D.rt v H'
  | .fn post => (∀ v B' M' H', Stp B M H B' M' H' → post v B' M' → D.rt v H') ∧ ∀ σ' B' M' H', Stp B M H B' M' H' → post .non B' M' → D.nx σ' H'
  | .dead => True
theorem Cont.step {c : Oc} {D : Ends} {B M H B' M' H' : Hp} (s : Stp B M H B' M' H') (h : Cont c D B M H) : Cont c D B' M' H' := by
  cases c with
  | nx Γ => exact fun σ B1 M1 H1 t k => h σ B1 M1 H1 (s.trans t) k
  | bk Γ => exact fun σ B1 M1 H1 t k => h σ B1 M1 H1 (s.trans t) k
  | ct Γ => exact fun σ B1 M1 H1 t k => h σ B1 M1 H1 (s.trans t) k
  | rt p => exact fun v B1 M1 H1 t k => h v B1 M1 H1 (s.trans t) k
  | fn p => exact ⟨fun v B1 M1 H1 t k => h.1 v B1 M1 H1 (s.trans t) k, fun σ B1 M1 H1 t k => h.2 σ B1 M1 H1 (s.trans t) k⟩
  | dead => trivial
def Oc.ret : Oc → Option (V → Hp → Hp → Prop)
  | .rt p => some p
  | .fn p => some p
  | _ => none
theorem Cont.ret {c : Oc} {D : Ends} {B M H : Hp} {post : V → Hp → Hp → Prop} (hc : c.ret = some post) (h : Cont c D B M H) : ∀ v B' M' H', Stp B M H B' M' H' → post v B' M' → D.rt v H' := by
  cases c with
  | rt p => cases hc; exact h
  | fn p => cases hc; exact h.1
  | nx Γ => cases hc
  | bk Γ => cases hc
  | ct Γ => cases hc
  | dead => cases hc
/-- a branch that does not come to its end -/
def noNx : Oc → Oc
  | .nx _ => .dead
  | .fn p => .rt p
  | c => c
theorem Cont.noNx {c : Oc} {D : Ends} {B M H : Hp} {N : L2.St → Hp → Prop} (h : Cont c D B M H) : Cont (G.noNx c) { D with nx := N } B M H := by
  cases c with
  | nx Γ => trivial
  | bk Γ => exact h
  | ct Γ => exact h
  | rt p => exact h
  | fn p => exact h.1
  | dead => trivial

/-- the block runs, and ends as o tells, wherever m is o -/
def BL (X : Cx) (sts : List Stmt) (Γ : List Slot) {O : Type} (m : Option O) (J : O → Oc) : Prop := ∀ o, m = some o → ∀ B M σ H (D : Ends), In B M H → OkS Γ σ B M → Cont (J o) D B M H → wSs X sts D σ H
section
variable {X : Cx} {Γ Γ' : List Slot} {e a b c tg : Expr} {es : List Expr} {pos p pos' : Pos} {rest : List Stmt} {st : Stmt} {O : Type} {J : O → Oc} {α β γ δ S R : Type}
theorem bl_nil {o : O} (hs : Sub Γ Γ') (hJ : J o = .nx Γ') : BL X [] Γ (some o) J := fun o' ho B M σ H D i ok k => by
  obtain rfl := Option.some.inj ho
  rw [hJ] at k
  obtain ⟨M', s, ok'⟩ := ok.sub hs
  exact wSs_of pss_nil (k σ B M' H (Stp.drop i s) ok')
/-- a def's end without return -/
theorem bl_end {o : O} {post : V → Hp → Hp → Prop} (hJ : J o = .fn post) (hp : ∀ σ B M, OkS Γ σ B M → ∃ M', Same M' M ∧ post .non B M') : BL X [] Γ (some o) J := fun o' ho B M σ H D i ok k => by
  obtain rfl := Option.some.inj ho
  rw [hJ] at k
  obtain ⟨M', s, h⟩ := hp σ B M ok
  exact wSs_of pss_nil (k.2 σ B M' H (Stp.drop i s) h)
theorem wSs_cons {D : Ends} {σ : L2.St} {H : Hp} (h : wS X st { D with nx := wSs X rest D } σ H) : wSs X (st :: rest) D σ H := wSs_of (pss_cons psW pssW) h
theorem bl_asg {i : Nat} {x : Str} {m : Option α} {τ : Ty α} {k : α → Option O} (hN : X.N.Nodup) (hi : X.N[i]? = some x) (hx : Loc X.env.scope x) (he : EVm X e Γ m τ) (hr : ∀ y, BL X rest (G.st Γ i (.val (τ.P y))) (k y) J)
    (hs : swapsWith e (some (.Name x pos')) pos.line X.env = pure false := by rfl) (hf : X.fn x = true ∨ X.env.scope.names.lookup x = some .local := by first | exact .inl rfl | exact .inr rfl | assumption) : BL X (.Assign [.Name x pos'] e pos :: rest) Γ (m.bind k) J := fun o ho B M σ H D inn ok kk => by
  obtain ⟨y, h1, h2⟩ := bind_of ho
  refine wSs_cons (wS_of (ps_set hN hi hx peW hs hf) (he y h1 B M σ H _ inn ok fun v B1 H1 g1 r1 => ?_))
  obtain ⟨M', s, ok'⟩ := (ok.mono g1.bb).set (i := i) (φ := τ.P y) r1
  have s1 := Stp.gr inn g1
  have s2 := s1.trans (Stp.drop s1.i s)
  exact hr y o h2 B1 M' _ H1 D s2.i ok' (kk.step s2)
theorem bl_asgO {i : Nat} {x : Str} {m : Option α} {μ : α → MO} {k : α → Option O} (hN : X.N.Nodup) (hi : X.N[i]? = some x) (hx : Loc X.env.scope x) (hl : i < Γ.length) (he : EOm X e Γ m μ) (hr : ∀ y, BL X rest (G.st Γ i (.own (μ y))) (k y) J)
    (hs : swapsWith e (some (.Name x pos')) pos.line X.env = pure false := by rfl) (hf : X.fn x = true ∨ X.env.scope.names.lookup x = some .local := by first | exact .inl rfl | exact .inr rfl | assumption) : BL X (.Assign [.Name x pos'] e pos :: rest) Γ (m.bind k) J := fun o ho B M σ H D inn ok kk => by
  obtain ⟨y, h1, h2⟩ := bind_of ho
  refine wSs_cons (wS_of (ps_set hN hi hx peW hs hf) (he y h1 B M σ H _ inn ok fun v B1 N1 H1 g1 n1 n2 r1 => ?_))
  have s1 := Stp.gr inn g1
  have dN : Dj N1 M := fun a o h => by
    cases z : M a with
    | none => rfl
    | some u => have := (n2 a o h).1; rw [inn.m a u z] at this; cases this
  obtain ⟨M', s, ok'⟩ := (ok.mono g1.bb).setOwn (i := i) r1 dN hl
  have i2 : In B1 (un N1 M') H1 := ⟨g1.bh, same_un n1 (s.trans (inn.m.trans g1.hh)), Dj.un (fun a o h => (n2 a o h).2) (s1.i.dj.sub s)⟩
  refine hr y o h2 B1 (un N1 M') _ H1 D i2 ok' (kk.step ⟨g1.bb, i2, fun a o h _ => g1.hh a o h, fun a o h nb _ => g1.new a o h nb, fun a o h nm => un_none.mpr ⟨?_, ?_⟩⟩)
  · cases z : N1 a with
    | none => rfl
    | some u => rw [(n2 a u z).1] at h; cases h
  · cases z : M' a with
    | none => rfl
    | some u => rw [s a u z] at nm; cases nm
/-- return e -/
theorem bl_ret {m : Option α} {τ : Ty α} {g : α → O} {post : α → V → Hp → Hp → Prop} (hJ : ∀ x, (J (g x)).ret = some (post x)) (hp : ∀ x v σ B M, OkS Γ σ B M → τ.rel x v B → ∃ M', Same M' M ∧ post x v B M') (he : EVm X e Γ m τ) :
    BL X (.Return (some e) pos :: rest) Γ (m.bind fun x => some (g x)) J := fun o ho B M σ H D i ok k => by
  obtain ⟨y, h1, h2⟩ := bind_of ho
  obtain rfl := Option.some.inj h2
  refine wSs_cons (wS_of (ps_ret peW) (he y h1 B M σ H _ i ok fun v B1 H1 g1 r1 => ?_))
  obtain ⟨M', s, pp⟩ := hp y v σ B1 M (ok.mono g1.bb) r1
  have s1 := Stp.gr i g1
  exact k.ret (hJ y) v B1 M' H1 (s1.trans (Stp.drop s1.i s)) pp
/-- .. of a def that owns nothing behind -/
theorem bl_retF {J : α → Oc} {m : Option α} {τ : Ty α} (hJ : ∀ x, (J x).ret = some (fun v B (_ : Hp) => τ.rel x v B)) (he : EVm X e Γ m τ) : BL X (.Return (some e) pos :: rest) Γ m J := fun o ho => by
  have := bl_ret (pos := pos) (rest := rest) (g := fun x => x) hJ (fun x v σ B M _ r => ⟨M, Same.refl _, r⟩) he o
  exact this (by rw [ho]; rfl)
theorem bl_if {ia ib : List Stmt} {mc : Option Bool} {ma mb : Option S} {Γj : S → List Slot} {k : S → Option O} (hc : ETm X c Γ mc) (ha : BL X ia Γ ma fun s => .nx (Γj s)) (hb : BL X ib Γ mb fun s => .nx (Γj s)) (hr : ∀ s, BL X rest (Γj s) (k s) J) :
    BL X (.If c ia ib pos :: rest) Γ (mc.bind fun z => (if z = true then ma else mb).bind k) J := fun o ho B M σ H D i ok kk => by
  obtain ⟨z, h1, h2⟩ := bind_of ho
  obtain ⟨s, h3, h4⟩ := bind_of h2
  refine wSs_cons (wS_of (ps_if ptW pssW pssW) (hc z h1 B M σ H _ i ok fun B1 H1 g1 => ?_))
  have s1 := Stp.gr i g1
  have fin : Cont (.nx (Γj s)) { D with nx := wSs X rest D } B1 M H1 := fun σ' B' M' H' st' ok' => hr s o h4 B' M' σ' H' D st'.i ok' (kk.step (s1.trans st'))
  cases z with
  | true => exact ha s h3 B1 M σ H1 _ s1.i (ok.mono g1.bb) fin
  | false => exact hb s h3 B1 M σ H1 _ s1.i (ok.mono g1.bb) fin
/-- the first branch does not come to its end -/
theorem bl_ifx {ia : List Stmt} {mc : Option Bool} {ma mr : Option O} (hc : ETm X c Γ mc) (ha : BL X ia Γ ma fun o => noNx (J o)) (hr : BL X rest Γ mr J) : BL X (.If c ia [] pos :: rest) Γ (mc.bind fun z => if z = true then ma else mr) J := fun o ho B M σ H D i ok kk => by
  obtain ⟨z, h1, h2⟩ := bind_of ho
  refine wSs_cons (wS_of (ps_if ptW pssW pssW) (hc z h1 B M σ H _ i ok fun B1 H1 g1 => ?_))
  have s1 := Stp.gr i g1
  cases z with
  | true => exact ha o h2 B1 M σ H1 _ s1.i (ok.mono g1.bb) (kk.step s1).noNx
  | false => exact wSs_of pss_nil (hr o h2 B1 M σ H1 D s1.i (ok.mono g1.bb) (kk.step s1))
theorem cont_nx {c : Oc} {D : Ends} {B M H : Hp} (h : Cont c D B M H) : Cont c { D with nx := wSs X [] D } B M H := by
  cases c with
  | nx Γ => exact fun σ' B' M' H' s k => wSs_of pss_nil (h σ' B' M' H' s k)
  | bk Γ => exact h
  | ct Γ => exact h
  | rt p => exact h
  | fn p => exact ⟨h.1, fun σ' B' M' H' s k => wSs_of pss_nil (h.2 σ' B' M' H' s k)⟩
  | dead => trivial
/-- an if that ends the block -/
theorem bl_ifl {ia ib : List Stmt} {mc : Option Bool} {ma mb : Option O} (hc : ETm X c Γ mc) (ha : BL X ia Γ ma J) (hb : BL X ib Γ mb J) : BL X [.If c ia ib pos] Γ (mc.bind fun z => if z = true then ma else mb) J := fun o ho B M σ H D i ok kk => by
  obtain ⟨z, h1, h2⟩ := bind_of ho
  refine wSs_cons (wS_of (ps_if ptW pssW pssW) (hc z h1 B M σ H _ i ok fun B1 H1 g1 => ?_))
  have s1 := Stp.gr i g1
  cases z with
  | true => exact ha o h2 B1 M σ H1 _ s1.i (ok.mono g1.bb) (cont_nx (kk.step s1))
  | false => exact hb o h2 B1 M σ H1 _ s1.i (ok.mono g1.bb) (cont_nx (kk.step s1))
theorem bl_pass {m : Option O} (hr : BL X rest Γ m J) : BL X (.Pass pos :: rest) Γ m J := fun o ho B M σ H D i ok kk => wSs_cons (wS_of ps_pass (hr o ho B M σ H D i ok kk))
theorem bl_doc {x : Str} {j} {m : Option O} (hr : BL X rest Γ m J) : BL X (.Expr (.Constant (.str x) j pos) pos' :: rest) Γ m J := fun o ho B M σ H D i ok kk => wSs_cons (wS_of ps_doc (hr o ho B M σ H D i ok kk))
theorem bl_cont {o : O} (hs : Sub Γ Γ') (hJ : J o = .ct Γ') : BL X (.Continue pos :: rest) Γ (some o) J := fun o' ho B M σ H D i ok k => by
  obtain rfl := Option.some.inj ho
  rw [hJ] at k
  obtain ⟨M', s, ok'⟩ := ok.sub hs
  exact wSs_cons (wS_of ps_continue (k σ B M' H (Stp.drop i s) ok'))
theorem bl_brk {o : O} (hs : Sub Γ Γ') (hJ : J o = .bk Γ') : BL X (.Break pos :: rest) Γ (some o) J := fun o' ho B M σ H D i ok k => by
  obtain rfl := Option.some.inj ho
  rw [hJ] at k
  obtain ⟨M', s, ok'⟩ := ok.sub hs
  exact wSs_cons (wS_of ps_break (k σ B M' H (Stp.drop i s) ok'))
/-- x op= e -/
theorem bl_aug {op : Operator} {i : Nat} {x : Str} {m : Option β} {τa : Ty α} {τb : Ty β} {τc : Ty γ} {y : α} {g : α → β → Option γ} {k : γ → Option O} (hN : X.N.Nodup) (hi : X.N[i]? = some x) (hx : Loc X.env.scope x) (hΓ : sl Γ i = .val (τa.P y)) (ho : OpT X (inplaceOp op) τa τb τc g) (he : EVm X e Γ m τb)
    (hr : ∀ z, BL X rest (G.st Γ i (.val (τc.P z))) (k z) J) (hf : X.fn x = true ∨ X.env.scope.names.lookup x = some .local := by first | exact .inl rfl | exact .inr rfl | assumption) : BL X (.AugAssign (.Name x pos') op e pos :: rest) Γ ((o2 g (some y) m).bind k) J := fun o hoo B M σ H D inn ok kk => by
  obtain ⟨z, h1, h2⟩ := bind_of hoo
  obtain ⟨y', e', h3, h4, h5⟩ := o2_of h1
  obtain rfl := Option.some.inj h3
  obtain ⟨v, hv, rv⟩ := ok.val hΓ
  refine wSs_cons (wS_of (ps_aug (ti := fun v w H Q => ∃ B, Same B H ∧ τa.rel y v B ∧ τb.rel e' w B ∧ ∀ v' B' H', Gr B H B' H' → τc.rel z v' B' → Q v' H') hN hi hx peW (fun pins s σ H v' w u t Q I ru rt ⟨B, sb, ra, rb, q⟩ => ho y e' z h5 pins s σ v' w u t B H Q I sb ra rb ru rt q) hf) ⟨v, hv, ?_⟩)
  refine he e' h4 B M σ H _ inn ok fun w B1 H1 g1 r1 => ⟨B1, g1.bh, τa.mono _ _ _ _ g1.bb rv, r1, fun v' B2 H2 g2 r2 => ?_⟩
  have g := g1.trans g2
  obtain ⟨M', s, ok'⟩ := (ok.mono g.bb).set (i := i) (φ := τc.P z) r2
  have s1 := Stp.gr inn g
  have s2 := s1.trans (Stp.drop s1.i s)
  exact hr z o h2 B2 M' _ H2 D s2.i ok' (kk.step s2)
/-! targets -/
def PGm (X : Cx) (tg : Expr) (τ : Ty α) (up : List Slot → α → List Slot) : Prop := ∃ g, PG X tg g ∧ ∀ x v B M σ H Γ (Q : L2.St → Hp → Prop), In B M H → OkS Γ σ B M → τ.rel x v B → (∀ σ' M', Same M' M → OkS (up Γ x) σ' B M' → Q σ' H) → g v σ H Q
def PGsm (X : Cx) (ts : List Expr) (ρ : TyT α) (up : List Slot → α → List Slot) : Prop := ∃ g, PGs X ts g ∧ ∀ x vs B M σ H Γ (Q : L2.St → Hp → Prop), In B M H → OkS Γ σ B M → ρ.rel x vs B → (∀ σ' M', Same M' M → OkS (up Γ x) σ' B M' → Q σ' H) → g vs σ H Q
theorem pgm_name {i : Nat} {x : Str} {τ : Ty α} (hN : X.N.Nodup) (hi : X.N[i]? = some x) (hx : Loc X.env.scope x) (hf : X.fn x = true ∨ X.env.scope.names.lookup x = some .local := by first | exact .inl rfl | exact .inr rfl | assumption) : PGm X (.Name x pos) τ (fun Γ y => G.st Γ i (.val (τ.P y))) :=
  ⟨gName i, pg_name hN hi hx hf, fun y v B M σ H Γ Q inn ok r q => by
    obtain ⟨M', s, ok'⟩ := ok.set (i := i) (φ := τ.P y) r
    exact q _ M' s ok'⟩
theorem pgs_one {τ : Ty α} {up : List Slot → α → List Slot} (h : PGm X e τ up) (hs : (assignEach [e] X.env).map (·.2) = assign e X.env :: (assignEach [] X.env).map (·.2) := by rfl) : PGsm X [e] (tOne τ) up := by
  obtain ⟨g, p, q⟩ := h
  exact ⟨_, pgs_cons p pgs_nil hs, fun x vs B M σ H Γ Q inn ok ⟨v, ev, r⟩ k => ⟨v, [], ev, q x v B M σ H Γ _ inn ok r fun σ' M' s ok' => ⟨rfl, k σ' M' s ok'⟩⟩⟩
theorem pgs_con {τ : Ty α} {ρ : TyT β} {up : List Slot → α → List Slot} {up' : List Slot → β → List Slot} (h : PGm X e τ up) (h' : PGsm X es ρ up') (hs : (assignEach (e :: es) X.env).map (·.2) = assign e X.env :: (assignEach es X.env).map (·.2) := by rfl) : PGsm X (e :: es) (tCons τ ρ) (fun Γ x => up' (up Γ x.1) x.2) := by
  obtain ⟨g, p, q⟩ := h
  obtain ⟨g', p', q'⟩ := h'
  exact ⟨_, pgs_cons p p' hs, fun x vs B M σ H Γ Q inn ok ⟨v, ws, ev, r, rs⟩ k => ⟨v, ws, ev, q x.1 v B M σ H Γ _ inn ok r fun σ' M' s ok' => q' x.2 ws B M' σ' H _ Q ⟨inn.b, s.trans inn.m, inn.dj.sub s⟩ ok' rs fun σ2 M2 s2 ok2 => k σ2 M2 (s2.trans s) ok2⟩⟩
theorem pgm_tup {n : Nat} {ρ : TyT α} {up : List Slot → α → List Slot} (hc : X.calm = true) (h : PGsm X es ρ up) (hn : (assignEach es X.env).length = ρ.len := by rfl) (hst : (assignEach es X.env).findIdx? (·.1) = none := by rfl) : PGm X (.Tuple es n pos) (tTup X.K ρ) up := by
  obtain ⟨g, p, q⟩ := h
  refine ⟨_, pg_tup hc p hn hst, fun x v B M σ H Γ Q inn ok ⟨a, vs, ev, sq, r⟩ k => ⟨a, vs, ev, same_tup inn.b sq, ?_, q x vs B M σ H Γ Q inn ok r k⟩⟩
  exact ρ.hlen _ _ _ r
theorem bl_tup {m : Option α} {τ : Ty α} {up : List Slot → α → List Slot} {k : α → Option O} (he : EVm X e Γ m τ) (hg : PGm X tg τ up) (hr : ∀ y, BL X rest (up Γ y) (k y) J)
    (hs : swapsWithSole [tg] e pos.line X.env = pure false := by rfl) (hw : swappedStores [tg] e X.env = pure none := by rfl) (ha : (assignEach [tg] X.env).map (·.2) = [assign tg X.env] := by rfl) : BL X (.Assign [tg] e pos :: rest) Γ (m.bind k) J := fun o ho B M σ H D inn ok kk => by
  obtain ⟨y, h1, h2⟩ := bind_of ho
  obtain ⟨g, pg, q⟩ := hg
  refine wSs_cons (wS_of (ps_asg peW pg hs hw ha) (he y h1 B M σ H _ inn ok fun v B1 H1 g1 r1 => ?_))
  refine q y v B1 M σ H1 Γ _ (inn.gr g1) (ok.mono g1.bb) r1 fun σ' M' s ok' => ?_
  have s1 := Stp.gr inn g1
  have s2 := s1.trans (Stp.drop s1.i s)
  exact hr y o h2 B1 M' σ' H1 D s2.i ok' (kk.step s2)
/-! what is walked -/
def ItOk (J : It) (xs : List α) (τ : Ty α) (B : Hp) : Prop := ∀ i B1 H, Same B B1 → Same B1 H → (∀ x, xs[i]? = some x → J.go i H ∧ ∀ v H', J.yld i H v H' → ∃ B', Gr B1 H B' H' ∧ τ.rel x v B') ∧ (xs[i]? = none → J.stop i H)
/-- what a heap that is held keeps: no list is longer than the line -/
def Vd (H : Hp) : Prop := ∀ a xs, H a = some (.lst xs) ∨ H a = some (.tup xs) → xs.length ≤ sizeLine
theorem Vd.of {pins : List (Addr × Obj)} {s : Shared} {σ : L2.St} {H : Hp} (I : Inv X pins σ H s) : Vd H := fun a xs h => by
  rcases h with h | h
  · exact (I.hok a _ h).1
  · exact (I.hok a _ h).1
theorem pi_vd {wi : TI} (h : PI X tg e wi) : PI X tg e (fun σ H R => wi σ H fun J H' => Vd H' → R J H') := ⟨fun pins s σ H R I q => by
  refine thn (h.run pins s σ H _ I q) fun v s1 h1 => thn h1 fun itv s2 h2 => ?_
  obtain ⟨it, fp, tn, J, H', e1, I2, T, t0, fo, r⟩ := h2
  exact ⟨it, fp, tn, J, H', e1, I2, T, t0, fo, r (Vd.of I2)⟩⟩
def PIm (X : Cx) (tg iter : Expr) (Γ : List Slot) (m : Option (List α)) (τ : Ty α) : Prop := ∃ wi, PI X tg iter wi ∧ ∀ xs, m = some xs → ∀ B M σ H (R : It → Hp → Prop), In B M H → OkS Γ σ B M → (∀ J B' H', Gr B H B' H' → ItOk J xs τ B' → xs.length ≤ sizeLine → R J H') → wi σ H R
theorem paired_at {F : α → β → Prop} : ∀ {xs : List α} {ys : List β} {i : Nat} {x : α}, Paired F xs ys → xs[i]? = some x → ∃ y, ys[i]? = some y ∧ F x y
  | _, _, _, _, .nil, h => by simp at h
  | _, _, 0, _, .cons f _, h => by simp at h; subst h; exact ⟨_, rfl, f⟩
  | _, _, i + 1, _, .cons _ t, h => by
    obtain ⟨y, e, f⟩ := paired_at (i := i) t (by simpa using h)
    exact ⟨y, by simpa using e, f⟩
theorem paired_none {F : α → β → Prop} {xs : List α} {ys : List β} {i : Nat} (h : Paired F xs ys) (e : xs[i]? = none) : ys.length ≤ i := by
  rw [← paired_len h]
  exact List.getElem?_eq_none_iff.mp e
theorem pim_list {m : Option (List α)} {τ : Ty α} (h : EVm X e Γ m (tList X.K τ)) : PIm X tg e Γ m τ :=
  ⟨_, pi_vd (pi_list peW), fun xs hx B M σ H R i ok q => h xs hx B M σ H _ i ok fun v B1 H1 g1 ⟨a, vs, ev, sq, pr⟩ => ⟨a, ev, ⟨vs, SqL.of (g1.bh _ _ sq)⟩, fun vd => q _ B1 H1 g1 (fun i B2 H2 s1 s2 =>
    ⟨fun x hx => by
      obtain ⟨y, hy, r⟩ := paired_at pr hx
      have sq2 := SqL.of (K := X.K) ((s1.trans s2) _ _ sq)
      refine ⟨⟨vs, y, sq2, hy⟩, fun v' H' ⟨e1, e2⟩ => ?_⟩
      subst e1
      have := e2 vs sq2
      rw [hy] at this
      cases this
      exact ⟨B2, Gr.refl s2, τ.mono _ _ _ _ s1 r⟩, fun hn => ⟨vs, SqL.of ((s1.trans s2) _ _ sq), paired_none pr hn⟩⟩) (by rw [paired_len pr]; exact vd a vs (.inl (g1.bh _ _ sq)))⟩⟩
theorem pim_tups {m : Option (List α)} {τ : Ty α} (h : EVm X e Γ m (tTups X.K τ)) (hz : ∀ xs, m = some xs → xs.length ≤ sizeLine) : PIm X tg e Γ m τ :=
  ⟨_, pi_tup peW, fun xs hx B M σ H R i ok q => h xs hx B M σ H _ i ok fun v B1 H1 g1 ⟨a, vs, ev, sq, pr⟩ => ⟨a, ev, ⟨vs, same_tup g1.bh sq⟩, q _ B1 H1 g1 (fun i B2 H2 s1 s2 =>
    ⟨fun x hx => by
      obtain ⟨y, hy, r⟩ := paired_at pr hx
      have sq2 := same_tup (s1.trans s2) sq
      refine ⟨⟨vs, y, sq2, hy⟩, fun v' H' ⟨e1, e2⟩ => ?_⟩
      subst e1
      have := e2 vs sq2
      rw [hy] at this
      cases this
      exact ⟨B2, Gr.refl s2, τ.mono _ _ _ _ s1 r⟩, fun hn => ⟨vs, same_tup (s1.trans s2) sq, paired_none pr hn⟩⟩) (hz xs hx)⟩⟩
/-- lo, lo + 1, .. -/
def irange (lo : Int) (n : Nat) : List Int := (List.range n).map fun (i : Nat) => lo + (i : Int)
def rngG (j : Int) : Option (List Int) := if -(2 ^ 62) ≤ j ∧ j ≤ 16777216 then some (irange 0 j.toNat) else none
def rngG2 (i j : Int) : Option (List Int) := if -(2 ^ 62) ≤ i ∧ i < 2 ^ 62 ∧ -(2 ^ 62) ≤ j ∧ j < 2 ^ 62 ∧ j - i ≤ 16777216 then some (irange i (j - i).toNat) else none
theorem irange_len (lo : Int) (n : Nat) : (irange lo n).length = n := by unfold irange; rw [List.length_map, List.length_range]
theorem irange_ok (lo : Int) (n : Nat) (B : Hp) : ItOk (Itr lo n) (irange lo n) tInt B := fun i B1 H s1 s2 => by
  refine ⟨fun x hx => ?_, fun hn => ?_⟩
  · unfold irange at hx
    rw [List.getElem?_map] at hx
    have hi : i < n := by
      cases z : (List.range n)[i]? with
      | none => rw [z] at hx; cases hx
      | some u => have := (List.getElem?_eq_some_iff.mp z).1; simpa using this
    rw [List.getElem?_range hi] at hx
    cases hx
    exact ⟨hi, fun v H' ⟨e1, e2⟩ => by subst e1 e2; exact ⟨B1, Gr.refl s2, rfl⟩⟩
  · unfold irange at hn
    have := List.getElem?_eq_none_iff.mp hn
    rw [List.length_map, List.length_range] at this
    exact this
theorem pim_range1 {m : Option Int} {p : Pos} (hg : Gl X "range") (hm : X.mg "range" = none) (h : EVm X a Γ m tInt) (hs : starEach [a] X.env = [(false, eval a X.env)] := by rfl) : PIm X tg (.Call (.Name "range" p) [a] [] pos) Γ (m.bind rngG) tInt :=
  ⟨_, pi_range1 hg hm paW hs, fun xs hx B M σ H R i ok q => by
    obtain ⟨j, h1, h2⟩ := bind_of hx
    obtain ⟨h3, h4⟩ := ite_of h2
    subst h4
    refine (ea_one h hs) j h1 B M σ H _ i ok fun vs B1 H1 g1 ⟨v, ev, r⟩ => ⟨j, by rw [ev, show v = .int j from r], h3.1, Int.lt_of_le_of_lt h3.2 (by decide), q _ B1 H1 g1 (irange_ok 0 j.toNat B1) (by rw [irange_len, sizeLine_eq]; omega)⟩⟩
theorem pim_range2 {m m' : Option Int} {p : Pos} (hg : Gl X "range") (hm : X.mg "range" = none) (h : EVm X a Γ m tInt) (h' : EVm X b Γ m' tInt) (hs : starEach [a, b] X.env = [(false, eval a X.env), (false, eval b X.env)] := by rfl) (hs2 : starEach [b] X.env = [(false, eval b X.env)] := by rfl) : PIm X tg (.Call (.Name "range" p) [a, b] [] pos) Γ (o2 rngG2 m m') tInt :=
  ⟨_, pi_range2 hg hm paW hs hs2, fun xs hx B M σ H R i ok q => by
    obtain ⟨j, l, h1, h2, h3⟩ := o2_of hx
    obtain ⟨h4, h5⟩ := ite_of h3
    subst h5
    refine (ea_cons h (ea_one h' hs2) (hs.trans (by rw [hs2]))) (j, l) (by rw [h1, h2]; rfl) B M σ H _ i ok fun vs B1 H1 g1 ⟨v, ws, ev, r, v', ev', r'⟩ => ⟨j, l, by rw [ev, ev', show v = .int j from r, show v' = .int l from r'], ⟨h4.1, h4.2.1, h4.2.2.1, h4.2.2.2.1⟩, q _ B1 H1 g1 (irange_ok j _ B1) (by rw [irange_len, sizeLine_eq]; omega)⟩⟩
/-! loops -/
def foldO (f : S → α → Option S) : S → List α → Option S
  | s, [] => some s
  | s, x :: xs => (f s x).bind fun s' => foldO f s' xs
inductive Lp (S R : Type) where
  | nx (s : S)
  | bk (s : S)
  | ct (s : S)
  | rt (r : R)
inductive Rs (S R : Type) where
  | go (s : S)
  | rt (r : R)
def forO (f : S → α → Option (Lp S R)) : S → List α → Option (Rs S R)
  | s, [] => some (.go s)
  | s, x :: xs => (f s x).bind fun l => match l with
    | .nx s' => forO f s' xs
    | .ct s' => forO f s' xs
    | .bk s' => some (.go s')
    | .rt r => some (.rt r)
/-- behind a loop that may have been left by return -/
def rsB (l : Rs S R) (k : S → Option O) (g : R → O) : Option O := match l with
  | .go s => k s
  | .rt r => some (g r)
theorem drop_at {xs : List α} {i : Nat} {x : α} (h : xs[i]? = some x) : xs.drop i = x :: xs.drop (i + 1) := by
  obtain ⟨hl, e⟩ := List.getElem?_eq_some_iff.mp h
  rw [List.drop_eq_getElem_cons hl, e]
theorem bl_for {iter : Expr} {body : List Stmt} {m : Option (List α)} {τ : Ty α} {up : List Slot → α → List Slot} {f : S → α → Option S} {s0 : S} {Γl : S → List Slot} {k : S → Option O} (hp : PassesOwn (model X.prog X.w) X.A X.env X.xe) (hc : X.calm = true)
    (hi : PIm X tg iter Γ m τ) (hg : PGm X tg τ up) (h0 : Sub Γ (Γl s0)) (hb : ∀ s x, BL X body (up (Γl s) x) (f s x) fun s' => .nx (Γl s')) (hr : ∀ s, BL X rest (Γl s) (k s) J)
    (hs : ∀ x, foldedSetIterable iter X.env x = pure x := by intro _; rfl) : BL X (.For tg iter body [] pos :: rest) Γ (m.bind fun xs => (foldO f s0 xs).bind k) J := fun o ho B M σ H D inn ok kk => by
  obtain ⟨xs, h1, h2⟩ := bind_of ho
  obtain ⟨sE, h3, h4⟩ := bind_of h2
  obtain ⟨wi, pi, qi⟩ := hi
  obtain ⟨g, pg, qg⟩ := hg
  refine wSs_cons (wS_of (ps_for hp hc pi pg pssW hs) (qi xs h1 B M σ H _ inn ok fun Jt B1 H1 g1 it _ => ?_))
  have s1 := Stp.gr inn g1
  obtain ⟨M0, sm, ok0⟩ := (ok.mono g1.bb).sub h0
  have s2 := s1.trans (Stp.drop s1.i sm)
  refine ⟨fun i m σ H => m = xs.length - i ∧ i ≤ xs.length ∧ ∃ s B' M', Stp B1 M0 H1 B' M' H ∧ OkS (Γl s) σ B' M' ∧ foldO f s (xs.drop i) = some sE, ⟨_, rfl, Nat.zero_le _, s0, B1, M0, Stp.refl s2.i, ok0, h3⟩, ?_⟩
  intro i mm σ' H' ⟨emm, hle, s, B', M', st', ok', hf⟩
  subst emm
  cases hx : xs[i]? with
  | none =>
    have hlen : xs.length ≤ i := List.getElem?_eq_none_iff.mp hx
    refine .inl ⟨(it i B' H' st'.bb st'.i.b).2 hx, ?_⟩
    rw [List.drop_eq_nil_of_le hlen] at hf
    cases hf
    exact hr sE o h4 B' M' σ' H' D st'.i ok' (kk.step (s2.trans st'))
  | some x =>
    have hlt : i < xs.length := (List.getElem?_eq_some_iff.mp hx).1
    obtain ⟨hgo, hy⟩ := (it i B' H' st'.bb st'.i.b).1 x hx
    rw [drop_at hx] at hf
    obtain ⟨sN, f1, f2⟩ := bind_of (show (f s x).bind (fun s' => foldO f s' (xs.drop (i + 1))) = some sE from hf)
    refine .inr ⟨hgo, fun σ2 H2 => ∃ B2 M2, Stp B1 M0 H1 B2 M2 H2 ∧ OkS (Γl sN) σ2 B2 M2, fun σ2 H2 ⟨B2, M2, st2, ok2⟩ => ⟨xs.length - (i + 1), by omega, rfl, hlt, sN, B2, M2, st2, ok2, f2⟩, fun v H2 hv => ?_⟩
    obtain ⟨B2, g2, r2⟩ := hy v H2 hv
    have st2 := st'.trans (Stp.gr st'.i g2)
    refine qg x v B2 M' σ' H2 (Γl s) _ st2.i (ok'.mono g2.bb) r2 fun σ3 M3 sm3 ok3 => ?_
    have st3 := st2.trans (Stp.drop st2.i sm3)
    exact hb s x sN f1 B2 M3 σ3 H2 _ st3.i ok3 fun σ4 B4 M4 H4 st4 ok4 => ⟨B4, M4, st3.trans st4, ok4⟩
def lpJ (Γl : S → List Slot) (post : R → V → Hp → Hp → Prop) : Lp S R → Oc
  | .nx s => .nx (Γl s)
  | .bk s => .bk (Γl s)
  | .ct s => .ct (Γl s)
  | .rt r => .rt (post r)
theorem bl_forx {iter : Expr} {body : List Stmt} {m : Option (List α)} {τ : Ty α} {up : List Slot → α → List Slot} {f : S → α → Option (Lp S R)} {s0 : S} {Γl : S → List Slot} {k : S → Option O} {g' : R → O} {post : R → V → Hp → Hp → Prop} (hp : PassesOwn (model X.prog X.w) X.A X.env X.xe) (hc : X.calm = true)
    (hi : PIm X tg iter Γ m τ) (hg : PGm X tg τ up) (h0 : Sub Γ (Γl s0)) (hJ : ∀ r, (J (g' r)).ret = some (post r)) (hb : ∀ s x, BL X body (up (Γl s) x) (f s x) (lpJ Γl post)) (hr : ∀ s, BL X rest (Γl s) (k s) J)
    (hs : ∀ x, foldedSetIterable iter X.env x = pure x := by intro _; rfl) : BL X (.For tg iter body [] pos :: rest) Γ (m.bind fun xs => (forO f s0 xs).bind fun l => rsB l k g') J := fun o ho B M σ H D inn ok kk => by
  obtain ⟨xs, h1, h2⟩ := bind_of ho
  obtain ⟨lE, h3, h4⟩ := bind_of h2
  obtain ⟨wi, pi, qi⟩ := hi
  obtain ⟨g, pg, qg⟩ := hg
  refine wSs_cons (wS_of (ps_for hp hc pi pg pssW hs) (qi xs h1 B M σ H _ inn ok fun Jt B1 H1 g1 it _ => ?_))
  have s1 := Stp.gr inn g1
  obtain ⟨M0, sm, ok0⟩ := (ok.mono g1.bb).sub h0
  have s2 := s1.trans (Stp.drop s1.i sm)
  refine ⟨fun i m σ H => m = xs.length - i ∧ i ≤ xs.length ∧ ∃ s B' M', Stp B1 M0 H1 B' M' H ∧ OkS (Γl s) σ B' M' ∧ forO f s (xs.drop i) = some lE, ⟨_, rfl, Nat.zero_le _, s0, B1, M0, Stp.refl s2.i, ok0, h3⟩, ?_⟩
  intro i mm σ' H' ⟨emm, hle, s, B', M', st', ok', hf⟩
  subst emm
  cases hx : xs[i]? with
  | none =>
    have hlen : xs.length ≤ i := List.getElem?_eq_none_iff.mp hx
    refine .inl ⟨(it i B' H' st'.bb st'.i.b).2 hx, ?_⟩
    rw [List.drop_eq_nil_of_le hlen] at hf
    cases hf
    exact hr s o h4 B' M' σ' H' D st'.i ok' (kk.step (s2.trans st'))
  | some x =>
    have hlt : i < xs.length := (List.getElem?_eq_some_iff.mp hx).1
    obtain ⟨hgo, hy⟩ := (it i B' H' st'.bb st'.i.b).1 x hx
    rw [drop_at hx] at hf
    obtain ⟨l, f1, f2⟩ := bind_of (show (f s x).bind (fun l => match l with | .nx s' => forO f s' (xs.drop (i + 1)) | .ct s' => forO f s' (xs.drop (i + 1)) | .bk s' => some (.go s') | .rt r => some (.rt r)) = some lE from hf)
    refine .inr ⟨hgo, fun σ2 H2 => ∃ sN B2 M2, Stp B1 M0 H1 B2 M2 H2 ∧ OkS (Γl sN) σ2 B2 M2 ∧ forO f sN (xs.drop (i + 1)) = some lE, fun σ2 H2 ⟨sN, B2, M2, st2, ok2, f3⟩ => ⟨xs.length - (i + 1), by omega, rfl, hlt, sN, B2, M2, st2, ok2, f3⟩, fun v H2 hv => ?_⟩
    obtain ⟨B2, g2, r2⟩ := hy v H2 hv
    have st2 := st'.trans (Stp.gr st'.i g2)
    refine qg x v B2 M' σ' H2 (Γl s) _ st2.i (ok'.mono g2.bb) r2 fun σ3 M3 sm3 ok3 => ?_
    have st3 := st2.trans (Stp.drop st2.i sm3)
    refine hb s x l f1 B2 M3 σ3 H2 _ st3.i ok3 ?_
    cases l with
    | nx sN => exact fun σ4 B4 M4 H4 st4 ok4 => ⟨sN, B4, M4, st3.trans st4, ok4, f2⟩
    | ct sN => exact fun σ4 B4 M4 H4 st4 ok4 => ⟨sN, B4, M4, st3.trans st4, ok4, f2⟩
    | bk sN =>
      cases f2
      exact fun σ4 B4 M4 H4 st4 ok4 => hr sN o h4 B4 M4 σ4 H4 D st4.i ok4 (kk.step ((s2.trans st3).trans st4))
    | rt r =>
      cases f2
      cases h4
      exact fun v4 B4 M4 H4 st4 p4 => kk.ret (hJ r) v4 B4 M4 H4 ((s2.trans st3).trans st4) p4
def whileO (c : S → Option Bool) (f : S → Option S) : Nat → S → Option S
  | 0, _ => none
  | n + 1, s => (c s).bind fun b => if b = true then (f s).bind (whileO c f n) else some s
def whileX (c : S → Option Bool) (f : S → Option (Lp S R)) : Nat → S → Option (Rs S R)
  | 0, _ => none
  | n + 1, s => (c s).bind fun b => if b = true then (f s).bind fun l => match l with
      | .nx s' => whileX c f n s'
      | .ct s' => whileX c f n s'
      | .bk s' => some (.go s')
      | .rt r => some (.rt r)
    else some (.go s)
theorem bl_while {body : List Stmt} {fc : S → Option Bool} {f : S → Option S} {n : Nat} {s0 : S} {Γl : S → List Slot} {k : S → Option O} (hp : PassesOwn (model X.prog X.w) X.A X.env X.xe)
    (h0 : Sub Γ (Γl s0)) (hc : ∀ s, ETm X c (Γl s) (fc s)) (hb : ∀ s, BL X body (Γl s) (f s) fun s' => .nx (Γl s')) (hr : ∀ s, BL X rest (Γl s) (k s) J) : BL X (.While c body [] pos :: rest) Γ ((whileO fc f n s0).bind k) J := fun o ho B M σ H D inn ok kk => by
  obtain ⟨sE, h3, h4⟩ := bind_of ho
  obtain ⟨M0, sm, ok0⟩ := ok.sub h0
  have s2 := Stp.drop inn sm
  refine wSs_cons (wS_of (ps_while hp ptW pssW) ?_)
  refine ⟨fun n σ H' => ∃ s B' M', Stp B M0 H B' M' H' ∧ OkS (Γl s) σ B' M' ∧ whileO fc f n s = some sE, ⟨n, s0, B, M0, Stp.refl s2.i, ok0, h3⟩, ?_⟩
  intro n' σ' H' ⟨s, B', M', st', ok', hf⟩
  cases n' with
  | zero => cases hf
  | succ n' =>
    obtain ⟨z, c1, c2⟩ := bind_of (show (fc s).bind _ = some sE from hf)
    refine hc s z c1 B' M' σ' H' _ st'.i ok' fun B1 H1 g1 => ?_
    have st1 := st'.trans (Stp.gr st'.i g1)
    have ok1 := ok'.mono g1.bb
    cases z with
    | false =>
      cases c2
      exact hr sE o h4 B1 M' σ' H1 D st1.i ok1 (kk.step (s2.trans st1))
    | true =>
      obtain ⟨sN, f1, f2⟩ := bind_of (show (f s).bind _ = some sE from c2)
      refine ⟨fun σ2 H2 => ∃ B2 M2, Stp B M0 H B2 M2 H2 ∧ OkS (Γl sN) σ2 B2 M2, fun σ2 H2 ⟨B2, M2, st2, ok2⟩ => ⟨n', Nat.lt_succ_self _, sN, B2, M2, st2, ok2, f2⟩, ?_⟩
      exact hb s sN f1 B1 M' σ' H1 _ st1.i ok1 fun σ4 B4 M4 H4 st4 ok4 => ⟨B4, M4, st1.trans st4, ok4⟩
theorem bl_whilex {body : List Stmt} {fc : S → Option Bool} {f : S → Option (Lp S R)} {n : Nat} {s0 : S} {Γl : S → List Slot} {k : S → Option O} {g' : R → O} {post : R → V → Hp → Hp → Prop} (hp : PassesOwn (model X.prog X.w) X.A X.env X.xe)
    (h0 : Sub Γ (Γl s0)) (hJ : ∀ r, (J (g' r)).ret = some (post r)) (hc : ∀ s, ETm X c (Γl s) (fc s)) (hb : ∀ s, BL X body (Γl s) (f s) (lpJ Γl post)) (hr : ∀ s, BL X rest (Γl s) (k s) J) :
    BL X (.While c body [] pos :: rest) Γ ((whileX fc f n s0).bind fun l => rsB l k g') J := fun o ho B M σ H D inn ok kk => by
  obtain ⟨lE, h3, h4⟩ := bind_of ho
  obtain ⟨M0, sm, ok0⟩ := ok.sub h0
  have s2 := Stp.drop inn sm
  refine wSs_cons (wS_of (ps_while hp ptW pssW) ?_)
  refine ⟨fun n σ H' => ∃ s B' M', Stp B M0 H B' M' H' ∧ OkS (Γl s) σ B' M' ∧ whileX fc f n s = some lE, ⟨n, s0, B, M0, Stp.refl s2.i, ok0, h3⟩, ?_⟩
  intro n' σ' H' ⟨s, B', M', st', ok', hf⟩
  cases n' with
  | zero => cases hf
  | succ n' =>
    obtain ⟨z, c1, c2⟩ := bind_of (show (fc s).bind _ = some lE from hf)
    refine hc s z c1 B' M' σ' H' _ st'.i ok' fun B1 H1 g1 => ?_
    have st1 := st'.trans (Stp.gr st'.i g1)
    have ok1 := ok'.mono g1.bb
    cases z with
    | false =>
      cases c2
      exact hr s o h4 B1 M' σ' H1 D st1.i ok1 (kk.step (s2.trans st1))
    | true =>
      obtain ⟨l, f1, f2⟩ := bind_of (show (f s).bind _ = some lE from c2)
      refine ⟨fun σ2 H2 => ∃ sN B2 M2, Stp B M0 H B2 M2 H2 ∧ OkS (Γl sN) σ2 B2 M2 ∧ whileX fc f n' sN = some lE, fun σ2 H2 ⟨sN, B2, M2, st2, ok2, f3⟩ => ⟨n', Nat.lt_succ_self _, sN, B2, M2, st2, ok2, f3⟩, ?_⟩
      refine hb s l f1 B1 M' σ' H1 _ st1.i ok1 ?_
      cases l with
      | nx sN => exact fun σ4 B4 M4 H4 st4 ok4 => ⟨sN, B4, M4, st1.trans st4, ok4, f2⟩
      | ct sN => exact fun σ4 B4 M4 H4 st4 ok4 => ⟨sN, B4, M4, st1.trans st4, ok4, f2⟩
      | bk sN =>
        cases f2
        exact fun σ4 B4 M4 H4 st4 ok4 => hr sN o h4 B4 M4 σ4 H4 D st4.i ok4 (kk.step ((s2.trans st1).trans st4))
      | rt r =>
        cases f2
        cases h4
        exact fun v4 B4 M4 H4 st4 p4 => kk.ret (hJ r) v4 B4 M4 H4 ((s2.trans st1).trans st4) p4
end
end G
/-! G4: what is owned and changes; defs. -/
namespace G
open PySem PySem.Spec PyProof.Rows L2

theorem putF_new {f : Str} {v : V} : ∀ {names : List Str} {vs : List V}, names.length = vs.length → f ∉ names → putF f v (names.zip vs) = (names ++ [f]).zip (vs ++ [v])
  | [], [], _, _ => rfl
  | n :: names, u :: vs, hl, h => by
    have hn : ¬ n = f := fun e => h (by rw [e]; exact List.mem_cons_self ..)
    have hl' : names.length = vs.length := by simpa using hl
    show (if n = f then _ else (n, u) :: putF f v (names.zip vs)) = _
    rw [if_neg hn, putF_new hl' fun q => h (List.mem_cons_of_mem _ q)]
    rfl
theorem putF_old {f : Str} {v : V} : ∀ {names : List Str} {vs : List V} {j : Nat}, names.length = vs.length → names.Nodup → names[j]? = some f → putF f v (names.zip vs) = names.zip (vs.set j v)
  | [], [], j, _, _, h => by simp at h
  | n :: names, u :: vs, 0, hl, nd, h => by
    simp at h
    subst h
    show (if n = n then (n, v) :: names.zip vs else _) = _
    rw [if_pos rfl]
    rfl
  | n :: names, u :: vs, j + 1, hl, nd, h => by
    have h' : names[j]? = some f := by simpa using h
    have hn : ¬ n = f := fun e => (List.nodup_cons.mp nd).1 (by rw [e]; exact List.mem_of_getElem? h')
    have hl' : names.length = vs.length := by simpa using hl
    show (if n = f then _ else (n, u) :: putF f v (names.zip vs)) = _
    rw [if_neg hn, putF_old hl' (List.nodup_cons.mp nd).2 h']
    rfl
theorem OkS.snoc {φ : MP} {v : V} {B : Hp} (p : φ.p v B) : ∀ {Γ : List Slot} {σ : L2.St} {M : Hp}, OkS Γ σ B M → OkS (Γ ++ [.val φ]) (σ ++ [some v]) B M
  | [], [], M, k => ⟨⟨v, rfl, p⟩, k⟩
  | .any :: Γ, _ :: σ, M, k => OkS.snoc p (Γ := Γ) (σ := σ) k
  | .val ψ :: Γ, o :: σ, M, ⟨z, k⟩ => ⟨z, OkS.snoc p k⟩
  | .own ψ :: Γ, o :: σ, M, ⟨w, M1, M2, e, m, d, q, k⟩ => ⟨w, M1, M2, e, m, d, q, OkS.snoc p k⟩
  | [], _ :: _, _, k => k.elim
  | .any :: _, [], _, k => k.elim
  | .val _ :: _, [], _, k => k.elim
  | .own _ :: _, [], _, k => k.elim
theorem OkS.snocO {ψ' : MO} {v : V} {B N : Hp} (p : ψ'.p v B N) : ∀ {Γ : List Slot} {σ : L2.St} {M : Hp}, OkS Γ σ B M → Dj N M → OkS (Γ ++ [.own ψ']) (σ ++ [some v]) B (un N M)
  | [], [], M, k, d => ⟨v, N, M, rfl, rfl, d, p, k⟩
  | .any :: Γ, _ :: σ, M, k, d => OkS.snocO p (Γ := Γ) (σ := σ) k d
  | .val ψ :: Γ, o :: σ, M, ⟨z, k⟩, d => ⟨z, OkS.snocO p k d⟩
  | .own ψ :: Γ, o :: σ, M, ⟨w, M1, M2, e, m, dd, q, k⟩, d => by
    have dM : Dj (un M1 M2) N := by rw [← m]; exact d.symm
    have d1 : Dj M1 N := dM.un_l
    have d2 : Dj M2 N := dM.un_r dd
    refine ⟨w, M1, un N M2, e, ?_, (Dj.un d1.symm dd.symm).symm, q, OkS.snocO p k d2.symm⟩
    rw [m, ← un_assoc, un_comm d1.symm, un_assoc]
  | [], _ :: _, _, k, _ => k.elim
  | .any :: _, [], _, k, _ => k.elim
  | .val _ :: _, [], _, k, _ => k.elim
  | .own _ :: _, [], _, k, _ => k.elim
theorem sing_upd {H M : Hp} {a : Addr} {o o' : HO} (m : Same (un (sing a o) M) H) (d : Dj (sing a o) M) : Same (un (sing a o') M) (upd H a o') := fun b u h => by
  rcases un_some h with h | ⟨n, h⟩
  · obtain ⟨e1, e2⟩ := sing_some h
    subst e1 e2
    exact upd_same
  · by_cases e : b = a
    · subst e
      rw [sing_same] at n
      cases n
    · rw [upd_ne e]
      exact m b u (same_un_r d b u h)
theorem dj_sing {M : Hp} {a : Addr} {o o' : HO} (d : Dj (sing a o) M) : Dj (sing a o') M := fun b u h => by
  obtain ⟨e1, e2⟩ := sing_some h
  subst e1
  exact d b o sing_same
/-- one owned object is changed, and nothing else -/
theorem In.upd {B M N H : Hp} {a : Addr} {o o' : HO} (i : In B (un (un (sing a o) N) M) H) (d : Dj (un (sing a o) N) M) (d1 : Dj (sing a o) N) : In B (un (un (sing a o') N) M) (upd H a o') ∧ Stp B (un (un (sing a o) N) M) H B (un (un (sing a o') N) M) (L2.upd H a o') := by
  have e1 : un (un (sing a o) N) M = un (sing a o) (un N M) := un_assoc _ _ _
  have e2 : un (un (sing a o') N) M = un (sing a o') (un N M) := un_assoc _ _ _
  have dd : Dj (sing a o) (un N M) := (Dj.un d1.symm d.un_l.symm).symm
  rw [e1] at i ⊢
  rw [e2]
  have na : B a = none := i.dj a o (un_l sing_same)
  have inn : In B (un (sing a o') (un N M)) (L2.upd H a o') := by
    refine ⟨fun b u h => ?_, sing_upd i.m dd, fun b u h => ?_⟩
    · rw [upd_ne (ne_of_none h na)]; exact i.b b u h
    · rcases un_some h with h | ⟨_, h⟩
      · obtain ⟨z, _⟩ := sing_some h; subst z; exact na
      · exact i.dj b u (same_un_r dd b u h)
  refine ⟨inn, Same.refl _, inn, fun b u h n => ?_, fun b u h nb _ => nb, fun b u h n => ?_⟩
  · have hb : b ≠ a := fun e => by subst e; rw [un_l sing_same] at n; cases n
    rw [upd_ne hb]; exact h
  · obtain ⟨n1, n2⟩ := un_none.mp n
    have hb : b ≠ a := fun e => by subst e; rw [sing_same] at n1; cases n1
    exact un_none.mpr ⟨sing_ne hb, n2⟩
section
variable {X : Cx} {Γ Γ' : List Slot} {e a b c tg o : Expr} {es : List Expr} {pos p pos' apos : Pos} {rest : List Stmt} {st : Stmt} {O : Type} {J : O → Oc} {α β γ δ S R : Type}
/-- self.f = e in an __init__: f is new -/
theorem bl_fldI {C : Addr} {names : List Str} {Γf : List Slot} {u : V} {i : Nat} {x f : Str} {m : Option α} {τ : Ty α} {k : α → Option O} (hΓ : sl Γ i = .own ((mObj C names Γf).at u)) (hN : X.N[i]? = some x) (hv : Vis X.env.scope x) (c : Cls X.K C) (n : NoAttr X.K C f)
    (he : EVm X e Γ m τ) (hr : ∀ y, BL X rest (G.st Γ i (.own ((mObj C (names ++ [f]) (Γf ++ [.val (τ.P y)])).at u))) (k y) J) (hf : (names.contains f) = false := by decide +kernel) (hl : names.length < 900 := by decide)
    (hd : (x == ("__debug__" : Str)) = false := by decide) (hcd : (x == ("__classdict__" : Str)) = false := by decide)
    (hs : swapsWith e (some (.Attribute (.Name x p) f pos')) pos.line X.env = pure false := by rfl) : BL X (.Assign [.Attribute (.Name x p) f pos'] e pos :: rest) Γ (m.bind k) J := fun oo ho B M σ H D inn ok kk => by
  obtain ⟨y, h1, h2⟩ := bind_of ho
  refine wSs_cons (wS_of (ps_fld (pe_var hN hv hd hcd) peW hs) (he y h1 B M σ H _ inn ok fun v B1 H1 g1 r1 => ?_))
  obtain ⟨w, N1, N2, e1, m1, d1, ⟨e2, a, dx, vs, M1, e3, m2, d2, l2, k2⟩, put⟩ := (ok.mono g1.bb).focus hΓ
  subst e3 m2
  have i1 := inn.gr g1
  have hfn : f ∉ names := fun q => by rw [List.contains_iff_mem.mpr q] at hf; cases hf
  refine ⟨.ref a, e1, a, C, dx, names.zip vs, rfl, i1.m a _ (by rw [m1]; exact un_l (un_l sing_same)), c, n, ?_, ?_⟩
  · rw [List.length_zip]; exact Nat.lt_of_le_of_lt (Nat.min_le_left _ _) (Nat.lt_trans hl (by decide))
  · rw [putF_new l2 hfn]
    subst m1
    obtain ⟨i2, s2⟩ := i1.upd (o' := .ins C dx ((names ++ [f]).zip (vs ++ [v]))) d1 d2
    have ok2 := put ((mObj C (names ++ [f]) (Γf ++ [.val (τ.P y)])).at u) B1 (un (sing a (.ins C dx ((names ++ [f]).zip (vs ++ [v])))) M1) (Same.refl _) (Dj.un (dj_sing d1.un_l) (d1.un_r d2))
      ⟨e2, a, dx, vs ++ [v], M1, rfl, rfl, dj_sing d2, by simp [l2], by rw [List.map_append]; exact k2.snoc r1⟩
    exact hr y oo h2 B1 _ σ _ D i2 ok2 (kk.step ((Stp.gr inn g1).trans s2))
end

/-! ### defs -/
section
variable {P : Program} {w : World} {K : PySem.W.Frag} {mg : Str → Option Value} {base : Heap} {α β γ : Type}
theorem okS_start {Γ : List Slot} {vs : List V} {B M : Hp} : ∀ n, OkS Γ (vs.map some) B M → OkS (Γ ++ List.replicate n .any) (vs.map some ++ List.replicate n none) B M := fun n => by
  have base : ∀ n, OkS (List.replicate n .any) (List.replicate n (none : Option V)) B emp := fun n => by
    induction n with
    | zero => exact rfl
    | succ n ih => exact ih
  have gen : ∀ (Γ : List Slot) (σ : L2.St) (M : Hp), OkS Γ σ B M → OkS (Γ ++ List.replicate n .any) (σ ++ List.replicate n none) B M := by
    intro Γ
    induction Γ with
    | nil =>
      intro σ M k
      cases σ with
      | nil => rw [show M = emp from k]; exact base n
      | cons o σ => exact k.elim
    | cons s Γ ih =>
      intro σ M k
      cases σ with
      | nil => cases s <;> exact k.elim
      | cons o σ =>
        cases s with
        | any => exact ih σ M k
        | val φ => exact ⟨k.1, ih σ M k.2⟩
        | own ψ => obtain ⟨v, M1, M2, e, m, d, q, k⟩ := k; exact ⟨v, M1, M2, e, m, d, q, ih σ M2 k⟩
  exact gen Γ _ M
/-- a def whose arguments stay: it hands back what fm tells -/
theorem fnF {x qual : Str} {st : Stmt} {f : Addr} {fd : FuncData} {N ps : List Str} {k : Nat} {ρ : TyT α} {fm : α → Option β} {τ : Ty β} (F : Fun K x qual st f fd) (S : FnScope N ps (defScope st)) (hl : ρ.len = ps.length)
    (hb : ∀ (cdv : Value) (A : Around) (outer : List Env) (s : Shared) (H : Hp) (E : XK), Room k (A.deeper (PyProof.Rows.envOfC qual (defScope st) s.heap.objs.size f cdv)) → ∀ x, BL (cxOf CX0 P w K mg base N qual (defScope st) f cdv A outer s H E).nox (defBody st) (ρ.slots x ++ List.replicate (N.length - ps.length) .any) (fm x) (fun y => .fn fun v B _ => τ.rel y v B)) :
    FnOk P w K mg base CX0 (k + 1) f fd ps (spF ρ fm τ) := by
  refine F.ok S (fun vs H Q E h => ?_) (fun cdv A outer s H vs Q E hr h => ?_)
  · obtain ⟨B, x, y, _, r, _⟩ := h
    rw [ρ.hlen _ _ _ r, hl]
  · obtain ⟨B, x, y, sb, r, hy, q⟩ := h
    have hlv : vs.length = ps.length := by rw [ρ.hlen _ _ _ r, hl]
    refine ⟨_, pssW, hb cdv A outer s H E hr x y hy B emp _ H _ ⟨sb, fun _ _ z => (nomatch z), Dj.emp _⟩ ?_ ⟨fun v B' M' H' st p => ?_, fun σ B' M' H' st p => ?_⟩⟩
    · have := okS_start (N.length - ps.length) (ρ.hsl x vs B r)
      unfold L2.start
      rw [hlv]
      exact this
    · exact q v B' H' ⟨st.bb, fun a o h => st.fr a o h rfl, st.i.b, fun a o h n => st.newB a o h n rfl⟩ p
    · exact q .non B' H' ⟨st.bb, fun a o h => st.fr a o h rfl, st.i.b, fun a o h n => st.newB a o h n rfl⟩ p
/-- an __init__ -/
theorem fnI {x qual : Str} {st : Stmt} {f C : Addr} {fd : FuncData} {N ps : List Str} {p0 : Str} {k : Nat} {ρ : TyT α} {im : α → Option β} {μ : β → MO} (F : Fun K x qual st f fd) (S : FnScope N (p0 :: ps) (defScope st)) (hl : ρ.len = ps.length)
    (hb : ∀ (cdv : Value) (A : Around) (outer : List Env) (s : Shared) (H : Hp) (E : XK), Room k (A.deeper (PyProof.Rows.envOfC qual (defScope st) s.heap.objs.size f cdv)) → ∀ x u, BL (cxOf CX0 P w K mg base N qual (defScope st) f cdv A outer s H E).nox (defBody st)
      (.own ((mObj C [] []).at u) :: (ρ.slots x ++ List.replicate (N.length - (ps.length + 1)) .any)) (im x) (fun y => .fn fun v B M => v = .non ∧ (μ y).p u B M)) :
    FnOk P w K mg base CX0 (k + 1) f fd (p0 :: ps) (spI C ρ im μ) := by
  refine F.ok S (fun vs H Q E h => ?_) (fun cdv A outer s H vs Q E hr h => ?_)
  · obtain ⟨B, M, x, y, u, ws, e, _, _, r, _⟩ := h
    rw [e, List.length_cons, List.length_cons, ρ.hlen _ _ _ r, hl]
  · obtain ⟨B, M, x, y, u, ws, rfl, i, p, r, hy, q⟩ := h
    have hlv : ws.length = ps.length := by rw [ρ.hlen _ _ _ r, hl]
    refine ⟨_, pssW, hb cdv A outer s H E hr x u y hy B M _ H _ i ?_ ⟨fun v B' M' H' st p => ?_, fun σ B' M' H' st p => ?_⟩⟩
    · have := okS_start (N.length - (ps.length + 1)) (ρ.hsl x ws B r)
      unfold L2.start
      rw [List.length_cons, hlv]
      exact ⟨u, M, emp, rfl, (un_emp _).symm, (Dj.emp _).symm, ⟨rfl, p⟩, this⟩
    · obtain ⟨e, p⟩ := p
      subst e
      exact q B' M' H' st p
    · exact q B' M' H' st p.2
/-- the end of an __init__: nothing is handed back -/
theorem endI {Γ : List Slot} {ψ : MO} {u : V} {Γ' : List Slot} : Γ = .own (ψ.at u) :: Γ' → ∀ σ B M, OkS Γ σ B M → ∃ M', Same M' M ∧ ((.non : V) = .non ∧ ψ.p u B M') := fun e σ B M ok => by
  subst e
  cases σ with
  | nil => exact ok.elim
  | cons o σ =>
    obtain ⟨v, M1, M2, _, m, d, ⟨e, p⟩, _⟩ := ok
    subst e m
    exact ⟨M1, same_un_l _ _, rfl, p⟩
end
end G
/-! G5: built-ins, lists, comprehensions, == of data. -/
namespace G
open PySem PySem.Spec PyProof.Rows L2

/-! ### data for == -/
class DatT (K : PySem.W.Frag) {α : Type} (τ : Ty α) where
  enc : α → PyData
  dep : Nat
  dp : ∀ x v B, τ.rel x v B → Dp K B v (enc x)
  lay : ∀ x, (enc x).canLay0 = true
  hdep : ∀ x, (enc x).depth ≤ dep
  eqv : ∀ x y, PyData.eqv (enc x) (enc y) = true ↔ x = y
class DatTT (K : PySem.W.Frag) {α : Type} (ρ : TyT α) where
  enc : α → List PyData
  dep : Nat
  dp : ∀ x vs B, ρ.rel x vs B → DpAll K B vs (enc x)
  lay : ∀ x, PyData.canLayAll0 (enc x) = true
  hdep : ∀ x, PyData.depthAll (enc x) ≤ dep
  eqv : ∀ x y, PyData.eqvAll (enc x) (enc y) = true ↔ x = y
instance {K : PySem.W.Frag} : DatT K tInt where
  enc := .int
  dep := 0
  dp := fun x v B h => by rw [show v = .int x from h]; exact .int x
  lay := fun x => by simp only [PyData.canLay0]
  hdep := fun x => by simp only [PyData.depth]; omega
  eqv := fun x y => by simp [PyData.eqv]
instance {K : PySem.W.Frag} : DatT K tBool where
  enc := .bool
  dep := 0
  dp := fun x v B h => by rw [show v = .bl x from h]; exact .bl x
  lay := fun x => by simp only [PyData.canLay0]
  hdep := fun x => by simp only [PyData.depth]; omega
  eqv := fun x y => by simp [PyData.eqv]
instance {K : PySem.W.Frag} : DatT K tNone where
  enc := fun _ => .none
  dep := 0
  dp := fun x v B h => by rw [show v = .non from h]; exact .non
  lay := fun x => by simp only [PyData.canLay0]
  hdep := fun x => by simp only [PyData.depth]; omega
  eqv := fun x y => by simp [PyData.eqv]
/-- is not None's data -/
class NNd (K : PySem.W.Frag) {α : Type} (τ : Ty α) [DatT K τ] : Prop where
  nn : ∀ x : α, DatT.enc K τ x ≠ .none
instance {K : PySem.W.Frag} : NNd K tInt := ⟨fun x h => nomatch h⟩
instance {K : PySem.W.Frag} : NNd K tBool := ⟨fun x h => nomatch h⟩
theorem eqv_none_l {d : PyData} (h : d ≠ .none) : PyData.eqv .none d = false := by cases d <;> first | exact absurd rfl h | simp [PyData.eqv]
theorem eqv_none_r {d : PyData} (h : d ≠ .none) : PyData.eqv d .none = false := by cases d <;> first | exact absurd rfl h | simp [PyData.eqv]
instance {K : PySem.W.Frag} {α : Type} {τ : Ty α} [DatT K τ] [NNd K τ] : DatT K (tOpt τ) where
  enc := fun o => match o with
    | none => .none
    | some x => DatT.enc K τ x
  dep := DatT.dep K τ
  dp := fun o v B h => by
    cases o with
    | none => rw [show v = .non from h]; exact .non
    | some x => exact DatT.dp (K := K) x v B h.2
  lay := fun o => by
    cases o with
    | none => simp only [PyData.canLay0]
    | some x => exact DatT.lay (K := K) (τ := τ) x
  hdep := fun o => by
    cases o with
    | none => simp only [PyData.depth]; omega
    | some x => exact DatT.hdep (K := K) (τ := τ) x
  eqv := fun o o' => by
    cases o with
    | none =>
      cases o' with
      | none => simp [PyData.eqv]
      | some y => rw [eqv_none_l (NNd.nn (K := K) (τ := τ) y)]; simp
    | some x =>
      cases o' with
      | none => rw [eqv_none_r (NNd.nn (K := K) (τ := τ) x)]; simp
      | some y => rw [DatT.eqv (K := K) (τ := τ) x y]; simp
theorem dpAll_of {K : PySem.W.Frag} {α : Type} {τ : Ty α} [DatT K τ] {B : Hp} : ∀ {xs : List α} {vs : List V}, Paired (fun x u => τ.rel x u B) xs vs → DpAll K B vs (xs.map (DatT.enc K τ))
  | _, _, .nil => .nil
  | _, _, .cons r t => .cons (DatT.dp (K := K) _ _ B r) (dpAll_of t)
theorem layAll {K : PySem.W.Frag} {α : Type} {τ : Ty α} [DatT K τ] : ∀ xs : List α, PyData.canLayAll0 (xs.map (DatT.enc K τ)) = true
  | [] => by simp only [List.map_nil, PyData.canLayAll0]
  | x :: xs => by simp only [List.map_cons, PyData.canLayAll0, DatT.lay (K := K) (τ := τ), layAll (K := K) (τ := τ) xs, Bool.and_self]
theorem depAll {K : PySem.W.Frag} {α : Type} {τ : Ty α} [DatT K τ] : ∀ xs : List α, PyData.depthAll (xs.map (DatT.enc K τ)) ≤ DatT.dep K τ
  | [] => by simp only [List.map_nil, PyData.depthAll]; omega
  | x :: xs => by
    have h1 := DatT.hdep (K := K) (τ := τ) x
    have h2 := depAll (K := K) (τ := τ) xs
    simp only [List.map_cons, PyData.depthAll]
    omega
theorem eqvAll_map {K : PySem.W.Frag} {α : Type} {τ : Ty α} [DatT K τ] : ∀ xs ys : List α, PyData.eqvAll (xs.map (DatT.enc K τ)) (ys.map (DatT.enc K τ)) = true ↔ xs = ys
  | [], [] => by simp [PyData.eqvAll]
  | [], y :: ys => by simp [PyData.eqvAll]
  | x :: xs, [] => by simp [PyData.eqvAll]
  | x :: xs, y :: ys => by
    simp only [List.map_cons, PyData.eqvAll, Bool.and_eq_true, DatT.eqv (K := K) (τ := τ) x y, eqvAll_map (K := K) (τ := τ) xs ys, List.cons.injEq]
instance {K : PySem.W.Frag} {α : Type} {τ : Ty α} [DatT K τ] : DatT K (tList K τ) where
  enc := fun xs => .list (xs.map (DatT.enc K τ))
  dep := DatT.dep K τ + 1
  dp := fun xs v B ⟨a, vs, e, s, p⟩ => by rw [e]; exact .lst (SqL.of s) (dpAll_of p)
  lay := fun xs => by simp only [PyData.canLay0]; exact layAll xs
  hdep := fun xs => by have := depAll (K := K) (τ := τ) xs; simp only [PyData.depth]; omega
  eqv := fun xs ys => by simp only [PyData.eqv]; exact eqvAll_map xs ys
instance {K : PySem.W.Frag} {α : Type} {τ : Ty α} [DatT K τ] : DatT K (tTups K τ) where
  enc := fun xs => .tuple (xs.map (DatT.enc K τ))
  dep := DatT.dep K τ + 1
  dp := fun xs v B ⟨a, vs, e, s, p⟩ => by rw [e]; exact .tup s (dpAll_of p)
  lay := fun xs => by simp only [PyData.canLay0]; exact layAll xs
  hdep := fun xs => by have := depAll (K := K) (τ := τ) xs; simp only [PyData.depth]; omega
  eqv := fun xs ys => by simp only [PyData.eqv]; exact eqvAll_map xs ys
instance {K : PySem.W.Frag} {α : Type} {τ : Ty α} [DatT K τ] : NNd K (tList K τ) := ⟨fun x h => nomatch h⟩
instance {K : PySem.W.Frag} {α : Type} {τ : Ty α} [DatT K τ] : NNd K (tTups K τ) := ⟨fun x h => nomatch h⟩
instance {K : PySem.W.Frag} {α : Type} {τ : Ty α} [DatT K τ] : DatTT K (tOne τ) where
  enc := fun x => [DatT.enc K τ x]
  dep := DatT.dep K τ
  dp := fun x vs B ⟨v, e, r⟩ => by rw [e]; exact .cons (DatT.dp (K := K) _ _ B r) .nil
  lay := fun x => by simp only [PyData.canLayAll0, DatT.lay (K := K) (τ := τ), Bool.and_self]
  hdep := fun x => by have := DatT.hdep (K := K) (τ := τ) x; simp only [PyData.depthAll]; omega
  eqv := fun x y => by simp only [PyData.eqvAll, Bool.and_true]; exact DatT.eqv (K := K) (τ := τ) x y
instance {K : PySem.W.Frag} {α β : Type} {τ : Ty α} {ρ : TyT β} [DatT K τ] [DatTT K ρ] : DatTT K (tCons τ ρ) where
  enc := fun x => DatT.enc K τ x.1 :: DatTT.enc K ρ x.2
  dep := max (DatT.dep K τ) (DatTT.dep K ρ)
  dp := fun x vs B ⟨v, ws, e, r, q⟩ => by rw [e]; exact .cons (DatT.dp (K := K) _ _ B r) (DatTT.dp (K := K) _ _ B q)
  lay := fun x => by simp only [PyData.canLayAll0, DatT.lay (K := K) (τ := τ), DatTT.lay (K := K) (ρ := ρ), Bool.and_self]
  hdep := fun x => by
    have h1 := DatT.hdep (K := K) (τ := τ) x.1
    have h2 := DatTT.hdep (K := K) (ρ := ρ) x.2
    simp only [PyData.depthAll]
    omega
  eqv := fun x y => by
    simp only [PyData.eqvAll, Bool.and_eq_true, DatT.eqv (K := K) (τ := τ), DatTT.eqv (K := K) (ρ := ρ)]
    exact ⟨fun h => Prod.ext h.1 h.2, fun h => by rw [h]; exact ⟨rfl, rfl⟩⟩
instance {K : PySem.W.Frag} {α : Type} {ρ : TyT α} [DatTT K ρ] : DatT K (tTup K ρ) where
  enc := fun x => .tuple (DatTT.enc K ρ x)
  dep := DatTT.dep K ρ + 1
  dp := fun x v B ⟨a, vs, e, s, p⟩ => by rw [e]; exact .tup s (DatTT.dp (K := K) _ _ B p)
  lay := fun x => by simp only [PyData.canLay0]; exact DatTT.lay (K := K) (ρ := ρ) x
  hdep := fun x => by have := DatTT.hdep (K := K) (ρ := ρ) x; simp only [PyData.depth]; omega
  eqv := fun x y => by simp only [PyData.eqv]; exact DatTT.eqv (K := K) (ρ := ρ) x y
instance {K : PySem.W.Frag} {α : Type} {ρ : TyT α} [DatTT K ρ] : NNd K (tTup K ρ) := ⟨fun x h => nomatch h⟩

section
variable {X : Cx} {Γ : List Slot} {e a b c : Expr} {es : List Expr} {pos p apos : Pos} {nm : Str} {α β γ δ : Type}
theorem dp_same {K : PySem.W.Frag} {H H' : Hp} (h : Same H H') : ∀ (d : PyData) (v : V), Dp K H v d → Dp K H' v d := by
  intro d
  refine PyData.rec (motive_1 := fun d => ∀ v, Dp K H v d → Dp K H' v d) (motive_2 := fun ds => ∀ vs, DpAll K H vs ds → DpAll K H' vs ds) (motive_3 := fun _ => True) (motive_4 := fun _ => True) ?_ ?_ ?_ ?_ ?_ ?_ ?_ ?_ ?_ ?_ ?_ ?_ d
  · intro v h; cases h; exact .non
  · intro b v h; cases h; exact .bl b
  · intro i v h; cases h; exact .int i
  · intro x v h; cases h; exact .str x
  · intro xs ih v k; cases k with | lst s q => exact .lst (h.seq s) (ih _ q)
  · intro xs ih v k; cases k with | tup s q => exact .tup (same_tup h s) (ih _ q)
  · intro kvs _ v k; cases k
  · intro vs k; cases k; exact .nil
  · intro x xs h1 h2 vs k; cases k with | cons r q => exact .cons (h1 _ r) (h2 _ q)
  · trivial
  · intros; trivial
  · intros; trivial
theorem shaped_of {K : PySem.W.Frag} {τ : Ty α} [DatT K τ] (x : α) (hd : DatT.dep K τ ≤ 64) : SeqAt.shaped (DatT.enc K τ x) = true := by
  show (_ && decide _) = true
  rw [Bool.and_eq_true]
  exact ⟨DatT.lay (K := K) (τ := τ) x, decide_eq_true (Nat.le_trans (DatT.hdep (K := K) (τ := τ) x) hd)⟩
theorem eqv_dec {K : PySem.W.Frag} {τ : Ty α} [DatT K τ] [DecidableEq α] (x y : α) : PyData.eqv (DatT.enc K τ x) (DatT.enc K τ y) = decide (x = y) := by
  by_cases h : x = y
  · rw [decide_eq_true h, (DatT.eqv (K := K) (τ := τ) x y).mpr h]
  · rw [decide_eq_false h]
    cases q : PyData.eqv (DatT.enc K τ x) (DatT.enc K τ y) with
    | false => rfl
    | true => exact absurd ((DatT.eqv (K := K) (τ := τ) x y).mp q) h
theorem oc_eqD {τ : Ty α} [DatT X.K τ] [DecidableEq α] (hu : X.A.units + 64 < cLine) (hd : DatT.dep X.K τ ≤ 64 := by decide) : OpT X (compareOp .Eq) τ τ tBool (fun x y => some (decide (x = y))) :=
  opT_of (op_eqD hu) fun x y z hz v w B H Q sb ra rb q => ⟨DatT.enc X.K τ x, DatT.enc X.K τ y, dp_same sb _ _ (DatT.dp (K := X.K) x v B ra), dp_same sb _ _ (DatT.dp (K := X.K) y w B rb), shaped_of x hd, shaped_of y hd, by
    rw [eqv_dec]; exact q _ B H (Gr.refl sb) (by cases hz; rfl)⟩
theorem oc_neD {τ : Ty α} [DatT X.K τ] [DecidableEq α] (hu : X.A.units + 64 < cLine) (hd : DatT.dep X.K τ ≤ 64 := by decide) : OpT X (compareOp .NotEq) τ τ tBool (fun x y => some (!decide (x = y))) :=
  opT_of (op_neD hu) fun x y z hz v w B H Q sb ra rb q => ⟨DatT.enc X.K τ x, DatT.enc X.K τ y, dp_same sb _ _ (DatT.dp (K := X.K) x v B ra), dp_same sb _ _ (DatT.dp (K := X.K) y w B rb), shaped_of x hd, shaped_of y hd, by
    rw [eqv_dec]; exact q _ B H (Gr.refl sb) (by cases hz; rfl)⟩
/-! `in` -/
theorem any_eqv {K : PySem.W.Frag} {τ : Ty α} [DatT K τ] [DecidableEq α] (x : α) : ∀ ys : List α, (ys.map (DatT.enc K τ)).any (fun z => PyData.eqv z (DatT.enc K τ x)) = decide (x ∈ ys)
  | [] => by simp
  | y :: ys => by
    rw [List.map_cons, List.any_cons, any_eqv x ys, eqv_dec]
    by_cases h : x = y
    · subst h; simp
    · have h' : ¬ y = x := fun e => h e.symm
      simp [h, h']
theorem oc_inD {τ : Ty α} [DatT X.K τ] [DecidableEq α] (hu : X.A.units + 65 < cLine) (hd : DatT.dep X.K τ < 64 := by decide) : OpT X (compareOp .In) τ (tList X.K τ) tBool (fun x ys => some (decide (x ∈ ys))) :=
  opT_of (op_inD hu) fun x y z hz v w B H Q sb ra rb q => ⟨DatT.enc X.K τ x, y.map (DatT.enc X.K τ), dp_same sb _ _ (DatT.dp (K := X.K) x v B ra), dp_same sb _ _ (DatT.dp (K := X.K) (τ := tList X.K τ) y w B rb), shaped_of x (Nat.le_of_lt hd), shaped_of (K := X.K) (τ := tList X.K τ) y hd, by
    rw [any_eqv]; exact q _ B H (Gr.refl sb) (by cases hz; rfl)⟩
theorem oc_notInD {τ : Ty α} [DatT X.K τ] [DecidableEq α] (hu : X.A.units + 65 < cLine) (hd : DatT.dep X.K τ < 64 := by decide) : OpT X (compareOp .NotIn) τ (tList X.K τ) tBool (fun x ys => some (!decide (x ∈ ys))) :=
  opT_of (op_notInD hu) fun x y z hz v w B H Q sb ra rb q => ⟨DatT.enc X.K τ x, y.map (DatT.enc X.K τ), dp_same sb _ _ (DatT.dp (K := X.K) x v B ra), dp_same sb _ _ (DatT.dp (K := X.K) (τ := tList X.K τ) y w B rb), shaped_of x (Nat.le_of_lt hd), shaped_of (K := X.K) (τ := tList X.K τ) y hd, by
    rw [any_eqv]; exact q _ B H (Gr.refl sb) (by cases hz; rfl)⟩
/-! built-ins -/
theorem fresh_of {H H' : Hp} {a : Addr} (s : Same H H') (h : H' a = none) : H a = none := by
  cases z : H a with
  | none => rfl
  | some u => rw [s a u z] at h; cases h
def BIF (X : Cx) (nm : Str) (ρ : TyT α) (g : α → Option β) (τ : Ty β) : Prop := ∃ r : List V → Hp → VK → Prop, ((∃ id, bootBuiltins nm = some (.builtin id) ∧ CallR X (.builtin id) r) ∨ ∃ T, bootBuiltins nm = some (.type T) ∧ CallR X (.type T) r) ∧
  ∀ x z, g x = some z → ∀ vs B H (Q : VK), Same B H → ρ.rel x vs B → (∀ v' B' H', Gr B H B' H' → τ.rel z v' B' → Q v' H') → r vs H Q
def BIO (X : Cx) (nm : Str) (ρ : TyT α) (g : α → Option β) (μ : β → MO) : Prop := ∃ r : List V → Hp → VK → Prop, ((∃ id, bootBuiltins nm = some (.builtin id) ∧ CallR X (.builtin id) r) ∨ ∃ T, bootBuiltins nm = some (.type T) ∧ CallR X (.type T) r) ∧
  ∀ x z, g x = some z → ∀ vs B H (Q : VK), Same B H → ρ.rel x vs B → (∀ v' B' M' H', Gr B H B' H' → Same M' H' → (∀ a o, M' a = some o → H a = none ∧ B' a = none) → (μ z).p v' B' M' → Q v' H') → r vs H Q
theorem ev_bi {ρ : TyT α} {g : α → Option β} {τ : Ty β} {m : Option α} (bi : BIF X nm ρ g τ) (hg : Gl X nm) (hm : X.mg nm = none) (ha : EAm X (e :: es) Γ m ρ) (hn : nm ≠ "__name__" := by decide) (hdb : (nm == ("__debug__" : Str)) = false := by decide)
    (he : starEach (e :: es) X.env = (false, eval e X.env) :: starEach es X.env := by rfl) (hpl : (backTo pos (starEach es X.env)).any (·.1) = false := by rfl) : EVm X (.Call (.Name nm p) (e :: es) [] pos) Γ (m.bind g) τ := fun z hz B M σ H Q i ok q => by
  obtain ⟨x, h1, h2⟩ := bind_of hz
  obtain ⟨r, hr, hq⟩ := bi
  have fin : wA X (e :: es) σ H fun vs H1 => r vs H1 Q := ha x h1 B M σ H _ i ok fun vs B1 H1 g1 r1 => hq x z h2 vs B1 H1 Q g1.bh r1 fun v' B' H' g2 r2 => q v' B' H' (g1.trans g2) r2
  rcases hr with ⟨id, hv, hc⟩ | ⟨T, hv, hc⟩
  · exact wE_of (pe_callB hc hg hm hv paW hn hdb he hpl) fin
  · exact wE_of (pe_callTy hc hg hm hv paW hn hdb he hpl) fin
theorem eo_bi {ρ : TyT α} {g : α → Option β} {μ : β → MO} {m : Option α} (bi : BIO X nm ρ g μ) (hg : Gl X nm) (hm : X.mg nm = none) (ha : EAm X (e :: es) Γ m ρ) (hn : nm ≠ "__name__" := by decide) (hdb : (nm == ("__debug__" : Str)) = false := by decide)
    (he : starEach (e :: es) X.env = (false, eval e X.env) :: starEach es X.env := by rfl) (hpl : (backTo pos (starEach es X.env)).any (·.1) = false := by rfl) : EOm X (.Call (.Name nm p) (e :: es) [] pos) Γ (m.bind g) μ := fun z hz B M σ H Q i ok q => by
  obtain ⟨x, h1, h2⟩ := bind_of hz
  obtain ⟨r, hr, hq⟩ := bi
  have fin : wA X (e :: es) σ H fun vs H1 => r vs H1 Q := ha x h1 B M σ H _ i ok fun vs B1 H1 g1 r1 => hq x z h2 vs B1 H1 Q g1.bh r1 fun v' B' M' H' g2 s2 n2 r2 => q v' B' M' H' (g1.trans g2) s2 (fun a o h => ⟨fresh_of g1.hh (n2 a o h).1, (n2 a o h).2⟩) r2
  rcases hr with ⟨id, hv, hc⟩ | ⟨T, hv, hc⟩
  · exact wE_of (pe_callB hc hg hm hv paW hn hdb he hpl) fin
  · exact wE_of (pe_callTy hc hg hm hv paW hn hdb he hpl) fin
variable {τ : Ty α}
theorem bi_len : BIF X "len" (tOne (tList X.K τ)) (fun xs => some (xs.length : Int)) tInt := ⟨_, .inl ⟨_, PySem.boot_len, call_len_seq⟩, fun x z hz vs B H Q sb ⟨v, ev, a, ws, ea, sq, pr⟩ q => by
  subst ev ea
  refine ⟨a, ws, rfl, .inl (SqL.of (sb _ _ sq)), q _ B H (Gr.refl sb) ?_⟩
  cases hz
  rw [← paired_len pr]; rfl⟩
theorem bi_lenT : BIF X "len" (tOne (tTups X.K τ)) (fun xs => some (xs.length : Int)) tInt := ⟨_, .inl ⟨_, PySem.boot_len, call_len_seq⟩, fun x z hz vs B H Q sb ⟨v, ev, a, ws, ea, sq, pr⟩ q => by
  subst ev ea
  refine ⟨a, ws, rfl, .inr (same_tup sb sq), q _ B H (Gr.refl sb) ?_⟩
  cases hz
  rw [← paired_len pr]; rfl⟩
theorem bi_lenP {ρ : TyT α} : BIF X "len" (tOne (tTup X.K ρ)) (fun _ => some (ρ.len : Int)) tInt := ⟨_, .inl ⟨_, PySem.boot_len, call_len_seq⟩, fun x z hz vs B H Q sb ⟨v, ev, a, ws, ea, sq, pr⟩ q => by
  subst ev ea
  refine ⟨a, ws, rfl, .inr (same_tup sb sq), q _ B H (Gr.refl sb) ?_⟩
  cases hz
  rw [ρ.hlen _ _ _ pr]; rfl⟩
theorem bi_lenS : BIF X "len" (tOne (tScr X.K)) (fun xs => some (xs.length : Int)) tInt := ⟨_, .inl ⟨_, PySem.boot_len, call_len_seq⟩, fun x z hz vs B H Q sb ⟨v, ev, a, ea, sq⟩ q => by
  subst ev ea
  refine ⟨a, _, rfl, .inl (sb.seq sq), q _ B H (Gr.refl sb) ?_⟩
  cases hz
  rw [List.length_map]; rfl⟩
theorem bi_abs : BIF X "abs" (tOne tInt) (fun i => some (if i < 0 then -i else i)) tInt := ⟨_, .inl ⟨"abs", by decide +kernel, call_abs⟩, fun x z hz vs B H Q sb ⟨v, ev, r⟩ q => by
  subst ev; cases r; cases hz
  exact ⟨x, rfl, q _ B H (Gr.refl sb) rfl⟩⟩
theorem bi_max2 (hc : X.calm = true) : BIF X "max" (tCons tInt (tOne tInt)) (fun p => some (if p.2 > p.1 then p.2 else p.1)) tInt := ⟨_, .inl ⟨"max", by decide +kernel, call_max2 hc⟩, fun x z hz vs B H Q sb ⟨v, ws, ev, r, v', ev', r'⟩ q => by
  subst ev ev'; cases r; cases r'; cases hz
  exact ⟨x.1, x.2, rfl, q _ B H (Gr.refl sb) rfl⟩⟩
theorem bi_min2 (hc : X.calm = true) : BIF X "min" (tCons tInt (tOne tInt)) (fun p => some (if p.2 < p.1 then p.2 else p.1)) tInt := ⟨_, .inl ⟨"min", by decide +kernel, call_min2 hc⟩, fun x z hz vs B H Q sb ⟨v, ws, ev, r, v', ev', r'⟩ q => by
  subst ev ev'; cases r; cases r'; cases hz
  exact ⟨x.1, x.2, rfl, q _ B H (Gr.refl sb) rfl⟩⟩
theorem bi_int : BIF X "int" (tOne tInt) (fun i => some i) tInt := ⟨_, .inr ⟨"int", by decide +kernel, call_int1⟩, fun x z hz vs B H Q sb ⟨v, ev, r⟩ q => by
  subst ev; cases r; cases hz
  exact .inl ⟨x, rfl, q _ B H (Gr.refl sb) rfl⟩⟩
theorem bi_intB : BIF X "int" (tOne tBool) (fun b => some (if b = true then 1 else 0)) tInt := ⟨_, .inr ⟨"int", by decide +kernel, call_int1⟩, fun x z hz vs B H Q sb ⟨v, ev, r⟩ q => by
  subst ev; cases r; cases hz
  exact .inr ⟨x, rfl, q _ B H (Gr.refl sb) rfl⟩⟩
/-! places -/
theorem atI_paired {F : α → V → Prop} {xs : List α} {vs : List V} {i : Int} {x : α} (h : Paired F xs vs) (e : atI xs i = some x) : ∃ v, atI vs i = some v ∧ F x v := by
  unfold atI at e ⊢
  rw [← paired_len h]
  cases q : ixN xs.length i with
  | none => rw [q] at e; cases e
  | some j =>
    rw [q] at e
    exact paired_at h e
theorem ev_ix {m : Option (List α)} {m' : Option Int} (ha : EVm X a Γ m (tList X.K τ)) (hb : EVm X b Γ m' tInt) (hs : PlainIx b := by intro _ _; rfl) : EVm X (.Subscript a b pos) Γ (o2 atI m m') τ := fun z hz B M σ H Q i ok q => by
  obtain ⟨xs, j, h1, h2, h3⟩ := o2_of hz
  refine wE_of (pe_ix ix_list peW peW hs) (ha xs h1 B M σ H _ i ok fun v B1 H1 g1 r1 => hb j h2 B1 M σ H1 _ (i.gr g1) (ok.mono g1.bb) fun w B2 H2 g2 r2 => ?_)
  obtain ⟨a, vs, ea, sq, pr⟩ := (tList X.K τ).mono _ _ _ _ g2.bb r1
  obtain ⟨u, hu, ru⟩ := atI_paired pr h3
  exact ⟨a, vs, j, u, ea, r2, SqL.of (g2.bh _ _ sq), hu, q u B2 H2 (g1.trans g2) ru⟩
theorem ev_ixS {m : Option (List Int)} {m' : Option Int} (ha : EVm X a Γ m (tScr X.K)) (hb : EVm X b Γ m' tInt) (hs : PlainIx b := by intro _ _; rfl) : EVm X (.Subscript a b pos) Γ (o2 atI m m') tInt := fun z hz B M σ H Q i ok q => by
  obtain ⟨xs, j, h1, h2, h3⟩ := o2_of hz
  refine wE_of (pe_ix ix_list peW peW hs) (ha xs h1 B M σ H _ i ok fun v B1 H1 g1 r1 => hb j h2 B1 M σ H1 _ (i.gr g1) (ok.mono g1.bb) fun w B2 H2 g2 r2 => ?_)
  obtain ⟨a, ea, sq⟩ := (tScr X.K).mono _ _ _ _ g2.bb r1
  have hu : atI (xs.map V.int) j = some (.int z) := by
    unfold atI at h3 ⊢
    rw [List.length_map]
    cases q : ixN xs.length j with
    | none => rw [q] at h3; cases h3
    | some l =>
      rw [q] at h3
      show (xs.map V.int)[l]? = _
      rw [List.getElem?_map, show xs[l]? = some z from h3]; rfl
  exact ⟨a, _, j, _, ea, r2, g2.bh.seq sq, hu, q _ B2 H2 (g1.trans g2) rfl⟩
theorem ev_ixT {ρ : TyT α} {τb : Ty β} {g : α → β} {m : Option α} {j : Nat} {l p2} (ht : TAt ρ j τb g) (ha : EVm X a Γ m (tTup X.K ρ)) : EVm X (.Subscript a (.Constant (.int (j : Int)) l p2) pos) Γ (o1 g m) τb := fun z hz B M σ H Q i ok q => by
  obtain ⟨x, h1, rfl⟩ := o1_of hz
  refine wE_of (pe_ix ix_tup peW pe_int (fun _ _ => rfl)) (ha x h1 B M σ H _ i ok fun v B1 H1 g1 ⟨a, vs, ea, sq, r⟩ => ?_)
  obtain ⟨u, hu, ru⟩ := ht.get x vs B1 r
  exact ⟨a, vs, j, u, ea, rfl, same_tup g1.bh sq, atI_nat hu, q u B1 H1 g1 ru⟩
theorem ev_ixU {m : Option (List α)} {m' : Option Int} (ha : EVm X a Γ m (tTups X.K τ)) (hb : EVm X b Γ m' tInt) (hs : PlainIx b := by intro _ _; rfl) : EVm X (.Subscript a b pos) Γ (o2 atI m m') τ := fun z hz B M σ H Q i ok q => by
  obtain ⟨xs, j, h1, h2, h3⟩ := o2_of hz
  refine wE_of (pe_ix ix_tup peW peW hs) (ha xs h1 B M σ H _ i ok fun v B1 H1 g1 r1 => hb j h2 B1 M σ H1 _ (i.gr g1) (ok.mono g1.bb) fun w B2 H2 g2 r2 => ?_)
  obtain ⟨a, vs, ea, sq, pr⟩ := (tTups X.K τ).mono _ _ _ _ g2.bb r1
  obtain ⟨u, hu, ru⟩ := atI_paired pr h3
  exact ⟨a, vs, j, u, ea, r2, same_tup g2.bh sq, hu, q u B2 H2 (g1.trans g2) ru⟩
end
end G
/-! G6: comprehensions, freezing, lists made of lists. -/
namespace G
open PySem PySem.Spec PyProof.Rows L2
/-! ### the slots of a comprehension's names -/
theorem wipe_at (σ : L2.St) : ∀ (vs : List Nat) (j : Nat), (wipe σ vs)[j]? = if j ∈ vs ∧ j < σ.length then some none else σ[j]?
  | [], j => by simp [wipe]
  | v :: vs, j => by
    unfold wipe
    rw [List.getElem?_set, wipe_at σ vs j, wipe_length]
    by_cases h : v = j
    · subst h
      by_cases hl : v < σ.length
      · simp [hl]
      · simp [hl]
    · have h' : ¬ j = v := fun e => h e.symm
      simp [h, h']
theorem wipe_set {σ : L2.St} {i : Nat} {o : Option V} {vs : List Nat} (h : i ∈ vs) : wipe (σ.set i o) vs = wipe σ vs := by
  apply List.ext_getElem?
  intro j
  rw [wipe_at, wipe_at, List.length_set, List.getElem?_set]
  by_cases e : i = j
  · subst e
    by_cases hl : i < σ.length
    · simp [h, hl]
    · simp [hl]
  · simp [e]
theorem wipe_wipe {σ : L2.St} {vs : List Nat} : wipe (wipe σ vs) vs = wipe σ vs := by
  apply List.ext_getElem?
  intro j
  rw [wipe_at, wipe_at, wipe_length]
  split <;> rfl
def wipeS : List Slot → List Nat → List Slot
  | Γ, [] => Γ
  | Γ, v :: vs => st (wipeS Γ vs) v .any
theorem OkS.forget {B : Hp} : ∀ {Γ : List Slot} {σ : L2.St} {M : Hp} (i : Nat), OkS Γ σ B M → ∃ M', Same M' M ∧ OkS (st Γ i .any) (σ.set i none) B M'
  | [], [], M, i, k => ⟨M, Same.refl _, by cases i <;> exact k⟩
  | .any :: Γ, _ :: σ, M, 0, k => ⟨M, Same.refl _, k⟩
  | .any :: Γ, _ :: σ, M, i + 1, k => by
    obtain ⟨M', s, q⟩ := OkS.forget (Γ := Γ) (σ := σ) i k
    exact ⟨M', s, q⟩
  | .val ψ :: Γ, o :: σ, M, 0, ⟨_, k⟩ => ⟨M, Same.refl _, k⟩
  | .val ψ :: Γ, o :: σ, M, i + 1, ⟨z, k⟩ => by
    obtain ⟨M', s, q⟩ := OkS.forget i k
    exact ⟨M', s, z, q⟩
  | .own ψ :: Γ, o :: σ, M, 0, ⟨_, M1, M2, _, m, d, _, k⟩ => ⟨M2, by rw [m]; exact same_un_r d, k⟩
  | .own ψ :: Γ, o :: σ, M, i + 1, ⟨w, M1, M2, e, m, d, z, k⟩ => by
    obtain ⟨M', s, q⟩ := OkS.forget i k
    exact ⟨un M1 M', by rw [m]; exact same_un' (Same.refl _) s d, w, M1, M', e, rfl, (d.symm.sub s).symm, z, q⟩
  | [], _ :: _, _, _, k => k.elim
  | .any :: _, [], _, _, k => k.elim
  | .val _ :: _, [], _, _, k => k.elim
  | .own _ :: _, [], _, _, k => k.elim
theorem OkS.wipe {B : Hp} {Γ : List Slot} {σ : L2.St} : ∀ (vs : List Nat) {M : Hp}, OkS Γ σ B M → ∃ M', Same M' M ∧ OkS (wipeS Γ vs) (L2.wipe σ vs) B M'
  | [], M, k => ⟨M, Same.refl _, k⟩
  | v :: vs, M, k => by
    obtain ⟨M1, s1, k1⟩ := OkS.wipe vs k
    obtain ⟨M2, s2, k2⟩ := k1.forget v
    exact ⟨M2, s2.trans s1, k2⟩

/-- an owned slot, taken out; a value of the base is put in its place -/
theorem OkS.take {ψ : MO} {B : Hp} : ∀ {Γ : List Slot} {σ : L2.St} {M : Hp} {i : Nat}, OkS Γ σ B M → sl Γ i = .own ψ →
    ∃ v M1 M2, σ[i]? = some (some v) ∧ M = un M1 M2 ∧ Dj M1 M2 ∧ ψ.p v B M1 ∧ ∀ (φ : MP) B', Same B B' → φ.p v B' → OkS (st Γ i (.val φ)) σ B' M2
  | [], [], _, _, _, q => nomatch q
  | .any :: Γ, _ :: σ, M, 0, k, q => nomatch q
  | .any :: Γ, _ :: σ, M, i + 1, k, q => by
    obtain ⟨v, M1, M2, e, m, d, p, z⟩ := OkS.take (i := i) (Γ := Γ) (σ := σ) k q
    exact ⟨v, M1, M2, by simpa using e, m, d, p, fun φ B' s p' => z φ B' s p'⟩
  | .val φ :: Γ, o :: σ, M, 0, _, q => nomatch q
  | .val φ :: Γ, o :: σ, M, i + 1, ⟨⟨w, ew, pw⟩, k⟩, q => by
    obtain ⟨v, M1, M2, e, m, d, p, z⟩ := OkS.take (i := i) k q
    exact ⟨v, M1, M2, by simpa using e, m, d, p, fun χ B' s p' => ⟨⟨w, ew, φ.mono w B B' s pw⟩, z χ B' s p'⟩⟩
  | .own χ :: Γ, o :: σ, M, 0, ⟨v, M1, M2, e, m, d, p, k⟩, q => by
    obtain rfl : χ = ψ := Slot.own.inj q
    exact ⟨v, M1, M2, by simp [e], m, d, p, fun φ B' s p' => ⟨⟨v, e, p'⟩, k.mono s⟩⟩
  | .own χ :: Γ, o :: σ, M, i + 1, ⟨w, N1, N2, ew, mw, dw, pw, k⟩, q => by
    obtain ⟨v, M1, M2, e, m, d, p, z⟩ := OkS.take (i := i) k q
    have dN : Dj N1 (un M1 M2) := by rw [← m]; exact dw
    have d1 : Dj M1 N1 := dN.symm.un_l
    have d2 : Dj M2 N1 := dN.symm.un_r d
    refine ⟨v, M1, un N1 M2, by simpa using e, ?_, (Dj.un d1.symm d.symm).symm, p, fun φ B' s p' => ?_⟩
    · rw [mw, m, ← un_assoc, un_comm d1.symm, un_assoc]
    · exact ⟨w, N1, M2, ew, rfl, d2.symm, χ.mono w B B' N1 s pw, z φ B' s p'⟩
  | [], _ :: _, _, _, k, _ => k.elim
  | .any :: _, [], _, _, k, _ => k.elim
  | .val _ :: _, [], _, _, k, _ => k.elim
  | .own _ :: _, [], _, _, k, _ => k.elim

def mapO {α β : Type} (f : α → Option β) : List α → Option (List β)
  | [] => some []
  | x :: xs => (f x).bind fun y => (mapO f xs).bind fun ys => some (y :: ys)
def compO {α β : Type} (t : α → Option Bool) (f : α → Option β) : List α → Option (List β)
  | [] => some []
  | x :: xs => (t x).bind fun b => if b = true then (f x).bind fun y => (compO t f xs).bind fun ys => some (y :: ys) else compO t f xs
theorem compO_yes {α β : Type} (f : α → Option β) : ∀ xs : List α, compO (fun _ => some true) f xs = mapO f xs
  | [] => rfl
  | x :: xs => by
    show (f x).bind (fun y => (compO (fun _ => some true) f xs).bind fun ys => some (y :: ys)) = _
    rw [compO_yes f xs]
    rfl
theorem mapO_some {α β : Type} (g : α → β) : ∀ xs : List α, mapO (fun x => some (g x)) xs = some (xs.map g)
  | [] => rfl
  | x :: xs => by
    show ((mapO (fun x => some (g x)) xs).bind fun ys => some (g x :: ys)) = _
    rw [mapO_some g xs]
    rfl
theorem mapO_eq {α β : Type} {f : α → Option β} (g : α → β) {xs : List α} (h : ∀ x ∈ xs, f x = some (g x)) : mapO f xs = some (xs.map g) := by
  induction xs with
  | nil => rfl
  | cons x xs ih =>
    show (f x).bind (fun y => (mapO f xs).bind fun ys => some (y :: ys)) = _
    rw [h x (List.mem_cons_self ..), ih fun y hy => h y (List.mem_cons_of_mem _ hy)]
    rfl
theorem compO_eq {α β : Type} {t : α → Option Bool} {f : α → Option β} (p : α → Bool) (g : α → β) {xs : List α} (ht : ∀ x ∈ xs, t x = some (p x)) (h : ∀ x ∈ xs, p x = true → f x = some (g x)) : compO t f xs = some ((xs.filter p).map g) := by
  induction xs with
  | nil => rfl
  | cons x xs ih =>
    have ih' := ih (fun y hy => ht y (List.mem_cons_of_mem _ hy)) fun y hy => h y (List.mem_cons_of_mem _ hy)
    show (t x).bind (fun b => if b = true then (f x).bind fun y => (compO t f xs).bind fun ys => some (y :: ys) else compO t f xs) = _
    rw [ht x (List.mem_cons_self ..), List.filter_cons]
    cases hp : p x with
    | true =>
      show (f x).bind (fun y => (compO t f xs).bind fun ys => some (y :: ys)) = _
      rw [h x (List.mem_cons_self ..) hp, ih']
      rfl
    | false => exact ih'
theorem compO_len {α β : Type} {t : α → Option Bool} {f : α → Option β} : ∀ {xs : List α} {ys : List β}, compO t f xs = some ys → ys.length ≤ xs.length
  | [], ys, h => by cases h; exact Nat.le_refl _
  | x :: xs, ys, h => by
    obtain ⟨b, _, h2⟩ := bind_of (show (t x).bind _ = some ys from h)
    cases b with
    | true =>
      obtain ⟨y, _, h3⟩ := bind_of (show (f x).bind _ = some ys from h2)
      obtain ⟨zs, h4, h5⟩ := bind_of h3
      cases h5
      have := compO_len h4
      simp; omega
    | false =>
      have := compO_len (show compO t f xs = some ys from h2)
      simp; omega
/-- as compO, the list made so far ahead -/
theorem compO_drop {α β : Type} {t : α → Option Bool} {f : α → Option β} {xs : List α} {i : Nat} {x : α} {ys : List β} (hx : xs[i]? = some x) (h : compO t f (xs.drop i) = some ys) :
    ∃ b, t x = some b ∧ (b = true → ∃ y zs, f x = some y ∧ compO t f (xs.drop (i + 1)) = some zs ∧ ys = y :: zs) ∧ (b = false → compO t f (xs.drop (i + 1)) = some ys) := by
  rw [drop_at hx] at h
  obtain ⟨b, h1, h2⟩ := bind_of (show (t x).bind _ = some ys from h)
  refine ⟨b, h1, fun hb => ?_, fun hb => ?_⟩
  · subst hb
    obtain ⟨y, h3, h4⟩ := bind_of (show (f x).bind _ = some ys from h2)
    obtain ⟨zs, h5, h6⟩ := bind_of h4
    cases h6
    exact ⟨y, zs, h3, h5, rfl⟩
  · subst hb
    exact h2

section
variable {X : Cx} {Γ Γ' : List Slot} {e a b c tg iter elt : Expr} {es ifs : List Expr} {pos p apos py spos : Pos} {nm : Str} {α β γ δ : Type} {rest : List Stmt} {O : Type} {J : O → Oc}
abbrev Blk (X : Cx) (scope : Scope) (s : Shared) (H : Hp) (C : Addr) (cl : List (Str × Addr)) (fp : List Addr) : Cx := X.blk s H scope (compEnvC scope cl C X.env) fp
/-- the target of a comprehension: names of its own alone -/
def PGc (X : Cx) (scope : Scope) (tg : Expr) (τ : Ty α) (up : List Slot → α → List Slot) (is : List Nat) : Prop := ∃ g, (∀ s H C cl fp, PG (Blk X scope s H C cl fp) tg g) ∧ ∀ x v B M σ H Γ (Q : L2.St → Hp → Prop), In B M H → OkS Γ σ B M → τ.rel x v B →
  (∀ σ' M', Same M' M → OkS (up Γ x) σ' B M' → (∀ vs, (∀ i ∈ is, i ∈ vs) → wipe σ' vs = wipe σ vs) → Q σ' H) → g v σ H Q
def PGcs (X : Cx) (scope : Scope) (ts : List Expr) (ρ : TyT α) (up : List Slot → α → List Slot) (is : List Nat) : Prop := ∃ g, (∀ s H C cl fp, PGs (Blk X scope s H C cl fp) ts g) ∧ ∀ x vs B M σ H Γ (Q : L2.St → Hp → Prop), In B M H → OkS Γ σ B M → ρ.rel x vs B →
  (∀ σ' M', Same M' M → OkS (up Γ x) σ' B M' → (∀ vs, (∀ i ∈ is, i ∈ vs) → wipe σ' vs = wipe σ vs) → Q σ' H) → g vs σ H Q
theorem pgc_name {scope : Scope} {i : Nat} {x : Str} {τ : Ty α} (h : ∀ s H C cl fp, PG (Blk X scope s H C cl fp) (.Name x pos) (gName i)) : PGc X scope (.Name x pos) τ (fun Γ y => st Γ i (.val (τ.P y))) [i] :=
  ⟨gName i, h, fun y v B M σ H Γ Q inn ok r q => by
    obtain ⟨M', s, ok'⟩ := ok.set (i := i) (φ := τ.P y) r
    exact q _ M' s ok' fun vs hv => wipe_set (hv i (List.mem_singleton.mpr rfl))⟩
theorem pgcs_one {scope : Scope} {τ : Ty α} {up : List Slot → α → List Slot} {is : List Nat} (h : PGc X scope e τ up is) (hs : ∀ s H C cl fp, (assignEach [e] (Blk X scope s H C cl fp).env).map (·.2) = assign e (Blk X scope s H C cl fp).env :: (assignEach [] (Blk X scope s H C cl fp).env).map (·.2) := by intros; rfl) : PGcs X scope [e] (tOne τ) up is := by
  obtain ⟨g, p, q⟩ := h
  exact ⟨_, fun s H C cl fp => pgs_cons (p s H C cl fp) pgs_nil (hs s H C cl fp), fun x vs B M σ H Γ Q inn ok ⟨v, ev, r⟩ k => ⟨v, [], ev, q x v B M σ H Γ _ inn ok r fun σ' M' s ok' w => ⟨rfl, k σ' M' s ok' w⟩⟩⟩
theorem pgcs_con {scope : Scope} {τ : Ty α} {ρ : TyT β} {up : List Slot → α → List Slot} {up' : List Slot → β → List Slot} {is is' : List Nat} (h : PGc X scope e τ up is) (h' : PGcs X scope es ρ up' is') (hs : ∀ s H C cl fp, (assignEach (e :: es) (Blk X scope s H C cl fp).env).map (·.2) = assign e (Blk X scope s H C cl fp).env :: (assignEach es (Blk X scope s H C cl fp).env).map (·.2) := by intros; rfl) : PGcs X scope (e :: es) (tCons τ ρ) (fun Γ x => up' (up Γ x.1) x.2) (is ++ is') := by
  obtain ⟨g, p, q⟩ := h
  obtain ⟨g', p', q'⟩ := h'
  exact ⟨_, fun s H C cl fp => pgs_cons (p s H C cl fp) (p' s H C cl fp) (hs s H C cl fp), fun x vs B M σ H Γ Q inn ok ⟨v, ws, ev, r, rs⟩ k => ⟨v, ws, ev, q x.1 v B M σ H Γ _ inn ok r fun σ' M' s ok' w => q' x.2 ws B M' σ' H _ Q ⟨inn.b, s.trans inn.m, inn.dj.sub s⟩ ok' rs fun σ2 M2 s2 ok2 w2 => k σ2 M2 (s2.trans s) ok2 fun vs hv => (w2 vs fun i hi => hv i (List.mem_append_right _ hi)).trans (w vs fun i hi => hv i (List.mem_append_left _ hi))⟩⟩
theorem pgc_tup {scope : Scope} {n : Nat} {ρ : TyT α} {up : List Slot → α → List Slot} {is : List Nat} (hc : X.calm = true) (h : PGcs X scope es ρ up is) (hn : ∀ s H C cl fp, (assignEach es (Blk X scope s H C cl fp).env).length = ρ.len := by intros; rfl) (hst : ∀ s H C cl fp, (assignEach es (Blk X scope s H C cl fp).env).findIdx? (·.1) = none := by intros; rfl) : PGc X scope (.Tuple es n pos) (tTup X.K ρ) up is := by
  obtain ⟨g, p, q⟩ := h
  refine ⟨gTup X.K ρ.len g, fun s H C cl fp => pg_tup hc (p s H C cl fp) (hn s H C cl fp) (hst s H C cl fp), fun x v B M σ H Γ Q inn ok ⟨a, vs, ev, sq, r⟩ k => ⟨a, vs, ev, same_tup inn.b sq, ρ.hlen _ _ _ r, q x vs B M σ H Γ Q inn ok r k⟩⟩
/-- the tests of a comprehension, in its block -/
def PTc (X : Cx) (scope : Scope) (ifs : List Expr) (Γ : List Slot) (m : Option Bool) : Prop := ∃ t, (∀ s H C cl fp, PTs (Blk X scope s H C cl fp) ifs t) ∧ ∀ b, m = some b → ∀ B M σ H (Q : Bool → Hp → Prop), In B M H → OkS Γ σ B M → (∀ B' H', Gr B H B' H' → Q b H') → t σ H Q
theorem ptc_x : True := trivial
theorem ptc_nil {scope : Scope} : PTc X scope [] Γ (some true) := ⟨tYes, fun _ _ _ _ _ => pts_nil, fun b hb B M σ H Q i ok q => by cases hb; exact q B H (Gr.refl i.b)⟩
def tBlk (X : Cx) (scope : Scope) (e : Expr) : TT := fun σ H Q => ∀ s H0 C cl fp, wT (Blk X scope s H0 C cl fp) e σ H Q
theorem ptc_one {scope : Scope} {m : Option Bool} (h : ∀ s H C cl fp, ETm (Blk X scope s H C cl fp) c Γ m) : PTc X scope [c] Γ m :=
  ⟨tBlk X scope c, fun s H C cl fp => pts_one ⟨fun pins s' σ H' Q I q => q s H C cl fp pins s' I⟩, fun b hb B M σ H Q i ok q s H0 C cl fp => h s H0 C cl fp b hb B M σ H Q i ok q⟩
def eBlk (X : Cx) (scope : Scope) (e : Expr) : TE := fun σ H Q => ∀ s H0 C cl fp, wE (Blk X scope s H0 C cl fp) e σ H Q
theorem pe_blk {scope : Scope} : ∀ s H C cl fp, PE (Blk X scope s H C cl fp) e (eBlk X scope e) := fun s H C cl fp => ⟨fun pins s' σ H' Q I q => q s H C cl fp pins s' I⟩
/-- how a comprehension reads -/
theorem lc_run {scope : Scope} {own : List (Str × Nat)} {m : Option (List α)} {τ : Ty α} {up : List Slot → α → List Slot} {is : List Nat} {ft : α → Option Bool} {fe : α → Option β} {τe : Ty β} (hi : PIm X tg iter Γ m τ) (hg : PGc X scope tg τ up is) (his : ∀ i ∈ is, i ∈ own.map (·.2))
    (ht : ∃ t : TT, (∀ s H C cl fp, PTs (Blk X scope s H C cl fp) ifs t) ∧ ∀ x b, ft x = some b → ∀ B M σ H (Q : Bool → Hp → Prop), In B M H → OkS (up (wipeS Γ (own.map (·.2))) x) σ B M → (∀ B' H', Gr B H B' H' → Q b H') → t σ H Q)
    (he : ∀ s H C cl fp, ∀ x, EVm (Blk X scope s H C cl fp) elt (up (wipeS Γ (own.map (·.2))) x) (fe x) τe) :
    ∃ wi g tt, PI X tg iter wi ∧ (∀ s H C cl fp, PG (Blk X scope s H C cl fp) tg g) ∧ (∀ s H C cl fp, PTs (Blk X scope s H C cl fp) ifs tt) ∧
      ∀ ys, (m.bind fun xs => compO ft fe xs) = some ys → ∀ B M σ H (Q : VK), In B M H → OkS Γ σ B M →
        (∀ v B' M' H', Gr B H B' H' → Same M' H' → (∀ a o, M' a = some o → H a = none ∧ B' a = none) → (mList X.K τe ys).p v B' M' → Q v H') → tLc wi g tt (eBlk X scope elt) (own.map (·.2)) σ H Q := by
  obtain ⟨wi, pi, qi⟩ := hi
  obtain ⟨g, pg, qg⟩ := hg
  obtain ⟨tt, pt, qt⟩ := ht
  refine ⟨wi, g, tt, pi, pg, pt, fun ys hy B M σ H Q inn ok q => ?_⟩
  obtain ⟨xs, h1, h2⟩ := bind_of hy
  refine qi xs h1 B M σ H _ inn ok fun Jt B1 H1 g1 it hsz => ?_
  intro D hD
  have hB1D : B1 D = none := fresh_of g1.bh hD
  have hHD : H D = none := fresh_of g1.hh hD
  obtain ⟨M0, sm0, okw⟩ := (ok.mono g1.bb).wipe (own.map (·.2))
  have inn1 := inn.gr g1
  refine ⟨fun i m H' => m = xs.length - i ∧ i ≤ xs.length ∧ ∃ B' acc vs zs, Gr B1 H1 B' H' ∧ H' D = some (.lst vs) ∧ B' D = none ∧ Paired (fun x u => τe.rel x u B') acc vs ∧ acc.length ≤ i ∧ compO ft fe (xs.drop i) = some zs ∧ ys = acc ++ zs,
    ⟨_, rfl, Nat.zero_le _, B1, [], [], ys, Gr.heap g1.bh (same_upd hD), upd_same, hB1D, .nil, Nat.le_refl _, h2, rfl⟩, ?_⟩
  intro i mm H' ⟨emm, hle, B', acc, vs, zs, gg, hDv, hBD, pr, hlen, hf, hys⟩
  subst emm
  have inM : In B' M0 H' := ⟨gg.bh, sm0.trans (inn1.m.trans gg.hh), fun a o h => gg.new a o (inn1.m a o (sm0 a o h)) (inn1.dj a o (sm0 a o h))⟩
  cases hx : xs[i]? with
  | none =>
    have hl : xs.length ≤ i := List.getElem?_eq_none_iff.mp hx
    refine .inl ⟨(it i B' H' gg.bb gg.bh).2 hx, ?_⟩
    rw [List.drop_eq_nil_of_le hl] at hf
    cases hf
    rw [List.append_nil] at hys
    subst hys
    refine q (.ref D) B' (sing D (.lst vs)) H' (g1.trans gg) (fun a o h => ?_) (fun a o h => ?_) ⟨D, vs, rfl, rfl, pr⟩
    · obtain ⟨e1, e2⟩ := sing_some h
      subst e1 e2
      exact hDv
    · obtain ⟨e1, e2⟩ := sing_some h
      subst e1
      exact ⟨hHD, hBD⟩
  | some x =>
    have hlt : i < xs.length := (List.getElem?_eq_some_iff.mp hx).1
    obtain ⟨hgo, hyl⟩ := (it i B' H' gg.bb gg.bh).1 x hx
    obtain ⟨b, ht1, hyes, hno⟩ := compO_drop hx hf
    refine .inr ⟨hgo, fun H2 => ∃ B2 acc2 vs2 zs2, Gr B1 H1 B2 H2 ∧ H2 D = some (.lst vs2) ∧ B2 D = none ∧ Paired (fun x u => τe.rel x u B2) acc2 vs2 ∧ acc2.length ≤ i + 1 ∧ compO ft fe (xs.drop (i + 1)) = some zs2 ∧ ys = acc2 ++ zs2,
      fun H2 ⟨B2, acc2, vs2, zs2, k1, k2, k3, k4, k5, k6, k7⟩ => ⟨xs.length - (i + 1), by omega, rfl, hlt, B2, acc2, vs2, zs2, k1, k2, k3, k4, k5, k6, k7⟩, fun v H2 hv => ?_⟩
    obtain ⟨B2, g2, r2⟩ := hyl v H2 hv
    have in2 : In B2 M0 H2 := inM.gr g2
    refine qg x v B2 M0 _ H2 _ _ in2 (okw.mono (gg.bb.trans g2.bb)) r2 fun σ3 M3 sm3 ok3 hw => ⟨?_, ?_⟩
    · rw [hw _ his, wipe_wipe]
    · have in3 : In B2 M3 H2 := ⟨in2.b, sm3.trans in2.m, in2.dj.sub sm3⟩
      refine qt x b ht1 B2 M3 σ3 H2 _ in3 ok3 fun B4 H4 g4 => ?_
      have g24 := g2.trans g4
      have hD4 : H4 D = some (.lst vs) := g24.hh _ _ hDv
      have hB4 : B4 D = none := g24.new _ _ hDv hBD
      cases b with
      | false =>
        refine ⟨B4, acc, vs, zs, gg.trans g24, hD4, hB4, Paired.mapP pr fun x u r => τe.mono _ _ _ _ g24.bb r, by omega, hno rfl, hys⟩
      | true =>
        obtain ⟨y, zs2, k1, k2, k3⟩ := hyes rfl
        show eBlk X scope elt σ3 H4 _
        intro s0 H0 C0 cl0 fp0
        refine he s0 H0 C0 cl0 fp0 x y k1 B4 M3 σ3 H4 _ (in3.gr g4) (ok3.mono g4.bb) fun w B5 H5 g5 r5 => ?_
        have g25 := g24.trans g5
        have hD5 : H5 D = some (.lst vs) := g5.hh _ _ hD4
        have hB5 : B5 D = none := g5.new _ _ hD4 hB4
        have hvl : vs.length = acc.length := (paired_len pr).symm
        have hzl : acc.length < sizeLine := by omega
        refine ⟨vs, hD5, by omega, B5, acc ++ [y], vs ++ [w], zs2, ?_, upd_same, hB5, ?_, by simp; omega, k2, by rw [hys, k3]; simp⟩
        · have gx := gg.trans g25
          refine ⟨gx.bb, fun a o h => ?_, fun a o h => ?_, gx.new⟩
          · rw [upd_ne (ne_of_none h hD)]; exact gx.hh a o h
          · rw [upd_ne (ne_of_none h hB5)]; exact gx.bh a o h
        · exact Paired.snoc (Paired.mapP pr fun x u r => τe.mono _ _ _ _ g25.bb r) r5
theorem ptc_yes {scope : Scope} {Γ : α → List Slot} : ∃ t : TT, (∀ s H C cl fp, PTs (Blk X scope s H C cl fp) [] t) ∧ ∀ (x : α) b, (some true : Option Bool) = some b → ∀ B M σ H (Q : Bool → Hp → Prop), In B M H → OkS (Γ x) σ B M → (∀ B' H', Gr B H B' H' → Q b H') → t σ H Q :=
  ⟨tYes, fun _ _ _ _ _ => pts_nil, fun x b hb B M σ H Q i ok q => by cases hb; exact q B H (Gr.refl i.b)⟩
theorem ptc_if {scope : Scope} {Γ : α → List Slot} {ft : α → Option Bool} (h : ∀ s H C cl fp, ∀ x, ETm (Blk X scope s H C cl fp) c (Γ x) (ft x)) : ∃ t : TT, (∀ s H C cl fp, PTs (Blk X scope s H C cl fp) [c] t) ∧ ∀ (x : α) b, ft x = some b → ∀ B M σ H (Q : Bool → Hp → Prop), In B M H → OkS (Γ x) σ B M → (∀ B' H', Gr B H B' H' → Q b H') → t σ H Q :=
  ⟨tBlk X scope c, fun s H C cl fp => pts_one ⟨fun pins s' σ H' Q I q => q s H C cl fp pins s' I⟩, fun x b hb B M σ H Q i ok q s H0 C cl fp => h s H0 C cl fp x b hb B M σ H Q i ok q⟩
/-- [elt for tg in iter if ..] -/
theorem eo_lc {scope : Scope} {own : List (Str × Nat)} {m : Option (List α)} {τ : Ty α} {up : List Slot → α → List Slot} {is : List Nat} {ft : α → Option Bool} {fe : α → Option β} {τe : Ty β} (hc : X.calm = true) (hN : X.N.Nodup) (ok : BlkOk X.N X.env.scope scope own) (hi : PIm X tg iter Γ m τ) (hg : PGc X scope tg τ up is) (his : ∀ i ∈ is, i ∈ own.map (·.2))
    (ht : ∃ t : TT, (∀ s H C cl fp, PTs (Blk X scope s H C cl fp) ifs t) ∧ ∀ x b, ft x = some b → ∀ B M σ H (Q : Bool → Hp → Prop), In B M H → OkS (up (wipeS Γ (own.map (·.2))) x) σ B M → (∀ B' H', Gr B H B' H' → Q b H') → t σ H Q)
    (he : ∀ s H C cl fp, ∀ x, EVm (Blk X scope s H C cl fp) elt (up (wipeS Γ (own.map (·.2))) x) (fe x) τe) (hs : ∀ x, foldedSetIterable iter X.env x = pure x := by intro _; rfl) :
    EOm X (.ListComp elt [⟨tg, iter, ifs, 0⟩] scope pos) Γ (m.bind fun xs => compO ft fe xs) (mList X.K τe) := fun ys hy B M σ H Q inn okk q => by
  obtain ⟨wi, g, tt, pi, pg, pt, k⟩ := lc_run hi hg his ht he
  exact wE_of (pe_lc hc hN pi ok pg pt pe_blk hs) (k ys hy B M σ H Q inn okk q)
/-- y = [elt for tg in iter if ..] -/
theorem bl_setLc {i : Nat} {y : Str} {scope : Scope} {own : List (Str × Nat)} {m : Option (List α)} {τ : Ty α} {up : List Slot → α → List Slot} {is : List Nat} {ft : α → Option Bool} {fe : α → Option β} {τe : Ty β} {k : List β → Option O} (hc : X.calm = true) (hN : X.N.Nodup) (hy : X.N[i]? = some y) (hyl : X.env.scope.names.lookup y = some .local) (hl : i < Γ.length)
    (hsw : swapsWith (.ListComp elt [⟨tg, iter, ifs, 0⟩] scope pos) (some (.Name y py)) spos.line X.env = pure true) (ok : BlkOk X.N X.env.scope scope own) (hi : PIm X tg iter Γ m τ) (hg : PGc X scope tg τ up is) (his : ∀ i ∈ is, i ∈ own.map (·.2))
    (ht : ∃ t : TT, (∀ s H C cl fp, PTs (Blk X scope s H C cl fp) ifs t) ∧ ∀ x b, ft x = some b → ∀ B M σ H (Q : Bool → Hp → Prop), In B M H → OkS (up (wipeS Γ (own.map (·.2))) x) σ B M → (∀ B' H', Gr B H B' H' → Q b H') → t σ H Q)
    (he : ∀ s H C cl fp, ∀ x, EVm (Blk X scope s H C cl fp) elt (up (wipeS Γ (own.map (·.2))) x) (fe x) τe) (hr : ∀ ys, BL X rest (G.st Γ i (.own (mList X.K τe ys))) (k ys) J) (hs : ∀ x, foldedSetIterable iter X.env x = pure x := by intro _; rfl) :
    BL X (.Assign [.Name y py] (.ListComp elt [⟨tg, iter, ifs, 0⟩] scope pos) spos :: rest) Γ ((m.bind fun xs => compO ft fe xs).bind k) J := fun o ho B M σ H D inn okk kk => by
  obtain ⟨ys, h1, h2⟩ := bind_of ho
  obtain ⟨wi, g, tt, pi, pg, pt, run⟩ := lc_run hi hg his ht he
  refine wSs_cons (wS_of (ps_setLc hc hN hy hyl hsw pi ok pg pt pe_blk hs) (run ys h1 B M σ H _ inn okk fun v B1 N1 H1 g1 n1 n2 r1 => ?_))
  have s1 := Stp.gr inn g1
  have dN : Dj N1 M := fun a o h => by
    cases z : M a with
    | none => rfl
    | some u => have := (n2 a o h).1; rw [inn.m a u z] at this; cases this
  obtain ⟨M', s, ok'⟩ := (okk.mono g1.bb).setOwn (i := i) r1 dN hl
  have i2 : In B1 (un N1 M') H1 := ⟨g1.bh, same_un n1 (s.trans (inn.m.trans g1.hh)), Dj.un (fun a o h => (n2 a o h).2) (s1.i.dj.sub s)⟩
  refine hr ys o h2 B1 (un N1 M') _ H1 D i2 ok' (kk.step ⟨g1.bb, i2, fun a o h _ => g1.hh a o h, fun a o h nb _ => g1.new a o h nb, fun a o h nm => un_none.mpr ⟨?_, ?_⟩⟩)
  · cases z : N1 a with
    | none => rfl
    | some u => rw [(n2 a u z).1] at h; cases h
  · cases z : M' a with
    | none => rfl
    | some u => rw [s a u z] at nm; cases nm
/-- an owned thing changes no more -/
theorem bl_frz {i : Nat} {ψ : MO} {sts : List Stmt} {m : Option O} (hΓ : sl Γ i = .own ψ) (hr : BL X sts (G.st Γ i (.val ψ.fr)) m J) : BL X sts Γ m J := fun o ho B M σ H D inn ok kk => by
  obtain ⟨v, M1, M2, e, em, d, p, put⟩ := ok.take hΓ
  subst em
  have dB : Dj M1 B := inn.dj.un_l
  have d2 : Dj M2 B := inn.dj.un_r d
  have i2 : In (un M1 B) M2 H := ⟨same_un ((same_un_l _ _).trans inn.m) inn.b, (same_un_r d).trans inn.m, fun a o q => un_none.mpr ⟨d.symm a o q, d2 a o q⟩⟩
  have ok2 : OkS (G.st Γ i (.val ψ.fr)) σ (un M1 B) M2 := put ψ.fr (un M1 B) (same_un_r dB) (ψ.frz v B M1 dB p)
  refine hr o ho (un M1 B) M2 σ H D i2 ok2 (kk.step ⟨same_un_r dB, i2, fun a o h _ => h, fun a o h nb nm => un_none.mpr ⟨(un_none.mp nm).1, nb⟩, fun a o h nm => (un_none.mp nm).2⟩)
/-- a new list, read off owned things -/
theorem eo_fz {m : Option (List α)} {τ : Ty α} [Safe τ] (h : EOm X e (fz Γ) m (mList X.K τ)) : EOm X e Γ m (mList X.K τ) := fun x hx B M σ H Q i ok q => by
  refine h x hx (un M B) emp σ H Q ⟨same_un i.m i.b, (fun _ _ z => nomatch z), Dj.emp _⟩ (ok.fz i.dj) fun v B' M' H' g s n r => ?_
  obtain ⟨a, vs, e1, e2, pr⟩ := r
  have kd := ok.kd
  refine q v (fun a => if (M a).isSome then none else B' a) M' H' ⟨fun a o h => ?_, g.hh, fun a o h => ?_, fun a o h nb => ?_⟩ s (fun a o h => ⟨(n a o h).1, ?_⟩) ⟨a, vs, e1, e2, Paired.mapP pr fun x u r => Safe.sf x u B' _ (fun a xs h => ?_) (fun a o w h => ?_) r⟩
  · have : M a = none := i.dj.symm a o h
    show (if (M a).isSome = true then none else B' a) = some o
    rw [this]
    exact g.bb a o (same_un_r i.dj a o h)
  · have h' : (if (M a).isSome = true then none else B' a) = some o := h
    split at h'
    · cases h'
    · exact g.bh a o h'
  · show (if (M a).isSome = true then none else B' a) = none
    cases z : M a with
    | some u => rfl
    | none => exact g.new a o h (un_none.mpr ⟨z, nb⟩)
  · show (if (M a).isSome = true then none else B' a) = none
    split
    · rfl
    · exact (n a o h).2
  · show (if (M a).isSome = true then none else B' a) = some (.tup xs)
    cases z : M a with
    | some u =>
      have := g.bb a u (same_un_l M B a u z)
      rw [h] at this
      cases this
      exact absurd rfl ((kd a _ z).1 xs)
    | none => exact h
  · show (if (M a).isSome = true then none else B' a) = some (.frz o w)
    cases z : M a with
    | some u =>
      have := g.bb a u (same_un_l M B a u z)
      rw [h] at this
      cases this
      exact absurd rfl ((kd a _ z).2 o w)
    | none => exact h
end
end G
/-! G7: defs as they stand behind the top, with or without defaults; the end. -/
namespace G
open PySem PySem.Spec PyProof.Rows L2
section
variable {P : Program} {w : World} {K : PySem.W.Frag} {mg : Str → Option Value} {base : Heap} {α β γ δ : Type} {x qual : Str} {params : Arguments} {body : List Stmt} {scope : Scope} {dvs : List V} {kws : List (Str × V)} {f : Addr} {fd : FuncData} {N ps : List Str} {k : Nat}
theorem okF {ρ : TyT α} {fm : α → Option β} {τ : Ty β} (F : FunD K x qual params body scope dvs kws f fd) (S : FnScope N ps scope) (hl : ρ.len = ps.length)
    (hb : ∀ (cdv : Value) (A : Around) (outer : List Env) (s : Shared) (H : Hp) (E : XK), Room k (A.deeper (PyProof.Rows.envOfC qual scope s.heap.objs.size f cdv)) → ∀ x, BL (cxOf CX0 P w K mg base N qual scope f cdv A outer s H E).nox body (ρ.slots x ++ List.replicate (N.length - ps.length) .any) (fm x) (fun y => .fn fun v B _ => τ.rel y v B)) :
    FnOk P w K mg base CX0 (k + 1) f fd ps (spF ρ fm τ) := by
  refine F.ok S (fun vs H Q E h => ?_) (fun cdv A outer s H vs Q E hr h => ?_)
  · obtain ⟨B, x, y, _, r, _⟩ := h
    rw [ρ.hlen _ _ _ r, hl]
  · obtain ⟨B, x, y, sb, r, hy, q⟩ := h
    have hlv : vs.length = ps.length := by rw [ρ.hlen _ _ _ r, hl]
    refine ⟨_, PSs.nox pssW, hb cdv A outer s H E hr x y hy B emp _ H _ ⟨sb, fun _ _ z => (nomatch z), Dj.emp _⟩ ?_ ⟨fun v B' M' H' st p => ?_, fun σ B' M' H' st p => ?_⟩⟩
    · have := okS_start (N.length - ps.length) (ρ.hsl x vs B r)
      unfold L2.start
      rw [hlv]
      exact this
    · exact q v B' H' ⟨st.bb, fun a o h => st.fr a o h rfl, st.i.b, fun a o h n => st.newB a o h n rfl⟩ p
    · exact q .non B' H' ⟨st.bb, fun a o h => st.fr a o h rfl, st.i.b, fun a o h n => st.newB a o h n rfl⟩ p
/-- its result is new and owned -/
theorem okO {ρ : TyT α} {fm : α → Option β} {μ : β → MO} (F : FunD K x qual params body scope dvs kws f fd) (S : FnScope N ps scope) (hl : ρ.len = ps.length)
    (hb : ∀ (cdv : Value) (A : Around) (outer : List Env) (s : Shared) (H : Hp) (E : XK), Room k (A.deeper (PyProof.Rows.envOfC qual scope s.heap.objs.size f cdv)) → ∀ x, BL (cxOf CX0 P w K mg base N qual scope f cdv A outer s H E).nox body (ρ.slots x ++ List.replicate (N.length - ps.length) .any) (fm x) (fun y => .fn fun v B M => (μ y).p v B M)) :
    FnOk P w K mg base CX0 (k + 1) f fd ps (spO ρ fm μ) := by
  refine F.ok S (fun vs H Q E h => ?_) (fun cdv A outer s H vs Q E hr h => ?_)
  · obtain ⟨B, x, y, _, r, _⟩ := h
    rw [ρ.hlen _ _ _ r, hl]
  · obtain ⟨B, x, y, sb, r, hy, q⟩ := h
    have hlv : vs.length = ps.length := by rw [ρ.hlen _ _ _ r, hl]
    have nw : ∀ (B' M' H' : Hp), Stp B emp H B' M' H' → ∀ a o, M' a = some o → H a = none ∧ B' a = none := fun B' M' H' st a o h => by
      refine ⟨?_, st.i.dj a o h⟩
      cases z : H a with
      | none => rfl
      | some u => rw [st.newM a u z rfl] at h; cases h
    refine ⟨_, PSs.nox pssW, hb cdv A outer s H E hr x y hy B emp _ H _ ⟨sb, fun _ _ z => (nomatch z), Dj.emp _⟩ ?_ ⟨fun v B' M' H' st p => ?_, fun σ B' M' H' st p => ?_⟩⟩
    · have := okS_start (N.length - ps.length) (ρ.hsl x vs B r)
      unfold L2.start
      rw [hlv]
      exact this
    · exact q v B' M' H' ⟨st.bb, fun a o h => st.fr a o h rfl, st.i.b, fun a o h n => st.newB a o h n rfl⟩ st.i.m (nw _ _ _ st) p
    · exact q .non B' M' H' ⟨st.bb, fun a o h => st.fr a o h rfl, st.i.b, fun a o h n => st.newB a o h n rfl⟩ st.i.m (nw _ _ _ st) p
/-- its first argument is owned -/
theorem okM {χ : γ → MO} {ρ : TyT α} {fm : γ → α → Option (γ × β)} {τ : Ty β} {p0 : Str} (F : FunD K x qual params body scope dvs kws f fd) (S : FnScope N (p0 :: ps) scope) (hl : ρ.len = ps.length)
    (hb : ∀ (cdv : Value) (A : Around) (outer : List Env) (s : Shared) (H : Hp) (E : XK), Room k (A.deeper (PyProof.Rows.envOfC qual scope s.heap.objs.size f cdv)) → ∀ g x u, BL (cxOf CX0 P w K mg base N qual scope f cdv A outer s H E).nox body
      (.own ((χ g).at u) :: (ρ.slots x ++ List.replicate (N.length - (ps.length + 1)) .any)) (fm g x) (fun r => .fn fun v B M => (χ r.1).p u B M ∧ τ.rel r.2 v B)) :
    FnOk P w K mg base CX0 (k + 1) f fd (p0 :: ps) (spM χ ρ fm τ) := by
  refine F.ok S (fun vs H Q E h => ?_) (fun cdv A outer s H vs Q E hr h => ?_)
  · obtain ⟨B, M, g, x, r, u, ws, e, _, _, rr, _⟩ := h
    rw [e, List.length_cons, List.length_cons, ρ.hlen _ _ _ rr, hl]
  · obtain ⟨B, M, g, x, r, u, ws, rfl, i, p, rr, hy, q⟩ := h
    have hlv : ws.length = ps.length := by rw [ρ.hlen _ _ _ rr, hl]
    refine ⟨_, PSs.nox pssW, hb cdv A outer s H E hr g x u r hy B M _ H _ i ?_ ⟨fun v B' M' H' st p => ?_, fun σ B' M' H' st p => ?_⟩⟩
    · have := okS_start (N.length - (ps.length + 1)) (ρ.hsl x ws B rr)
      unfold L2.start
      rw [List.length_cons, hlv]
      exact ⟨u, M, emp, rfl, (un_emp _).symm, (Dj.emp _).symm, ⟨rfl, p⟩, this⟩
    · exact q v B' M' H' st p.1 p.2
    · exact q .non B' M' H' st p.1 p.2
/-- an __init__ -/
theorem okI {C : Addr} {ρ : TyT α} {im : α → Option β} {μ : β → MO} {p0 : Str} (F : FunD K x qual params body scope dvs kws f fd) (S : FnScope N (p0 :: ps) scope) (hl : ρ.len = ps.length)
    (hb : ∀ (cdv : Value) (A : Around) (outer : List Env) (s : Shared) (H : Hp) (E : XK), Room k (A.deeper (PyProof.Rows.envOfC qual scope s.heap.objs.size f cdv)) → ∀ x u, BL (cxOf CX0 P w K mg base N qual scope f cdv A outer s H E).nox body
      (.own ((mObj C [] []).at u) :: (ρ.slots x ++ List.replicate (N.length - (ps.length + 1)) .any)) (im x) (fun y => .fn fun v B M => v = .non ∧ (μ y).p u B M)) :
    FnOk P w K mg base CX0 (k + 1) f fd (p0 :: ps) (spI C ρ im μ) := by
  refine F.ok S (fun vs H Q E h => ?_) (fun cdv A outer s H vs Q E hr h => ?_)
  · obtain ⟨B, M, x, y, u, ws, e, _, _, r, _⟩ := h
    rw [e, List.length_cons, List.length_cons, ρ.hlen _ _ _ r, hl]
  · obtain ⟨B, M, x, y, u, ws, rfl, i, p, r, hy, q⟩ := h
    have hlv : ws.length = ps.length := by rw [ρ.hlen _ _ _ r, hl]
    refine ⟨_, PSs.nox pssW, hb cdv A outer s H E hr x u y hy B M _ H _ i ?_ ⟨fun v B' M' H' st p => ?_, fun σ B' M' H' st p => ?_⟩⟩
    · have := okS_start (N.length - (ps.length + 1)) (ρ.hsl x ws B r)
      unfold L2.start
      rw [List.length_cons, hlv]
      exact ⟨u, M, emp, rfl, (un_emp _).symm, (Dj.emp _).symm, ⟨rfl, p⟩, this⟩
    · obtain ⟨e, p⟩ := p
      subst e
      exact q B' M' H' st p
    · exact q B' M' H' st p.2
end
theorem retP {Γ : List Slot} {α : Type} {τ : Ty α} : ∀ (x : α) (v : V) (σ : L2.St) (B M : Hp), OkS Γ σ B M → τ.rel x v B → ∃ M', Same M' M ∧ (fun r v B (_ : Hp) => τ.rel r v B) x v B M' := fun _ _ _ _ M _ r => ⟨M, Same.refl _, r⟩
theorem Room.u65 {k : Nat} {A : Around} (r : Room k A) : A.units + 65 < cLine := by have := r.un; omega
/-- the law: the script in, True out -/
theorem law_end {K : PySem.W.Frag} {fm : List Int → Option Bool} (h : ∀ ns : List Int, ns.length ≤ 63 → fm ns = some true) (H : Hp) (a : Addr) (ns : List Int) (hl : ns.length ≤ 63) (hS : SqL K H a (ns.map V.int)) :
    spF (tOne (tScr K)) fm tBool [.ref a] H (fun v _ => v = .bl true) fun _ _ _ => False :=
  ⟨H, ns, true, Same.refl _, ⟨_, rfl, a, rfl, hS⟩, h ns hl, fun v B' H' _ r => r⟩
/-- a module's whole number, text -/
theorem ev_glI {X : Cx} {Γ : List Slot} {x : Str} {i : Int} {pos : Pos} (hm : ∃ t, X.mg x = some (.int i t)) (hg : Gl X x) (hd : (x == ("__debug__" : Str)) = false := by decide) : EVm X (.Name x pos) Γ (some i) tInt := fun y hy B M σ H Q inn ok q => by
  obtain ⟨t, hm⟩ := hm
  exact wE_of (pe_glob (v := .int i) hg hm ⟨t, rfl⟩ hd) (q _ B H (Gr.refl inn.b) (by cases hy; rfl))
theorem ev_glS {X : Cx} {Γ : List Slot} {x s : Str} {pos : Pos} (hm : ∃ t, X.mg x = some (.str s t)) (hg : Gl X x) (hd : (x == ("__debug__" : Str)) = false := by decide) : EVm X (.Name x pos) Γ (some s) tStr := fun y hy B M σ H Q inn ok q => by
  obtain ⟨t, hm⟩ := hm
  exact wE_of (pe_glob (v := .str s) hg hm ⟨t, rfl⟩ hd) (q _ B H (Gr.refl inn.b) (by cases hy; rfl))
end G
namespace M
open PySem L2 G
structure Mesh where
  width : Int
  height : Int
  room : Int
  deriving DecidableEq
abbrev n_Mesh : List Str := ["width", "height", "room"]
def l_cell (script : (List Int)) (k : Int) : Option Int :=
  ((o2 (fun x y => some (decide (x < y))) (some k) ((some script).bind (fun xs => some (xs.length : Int)))).bind fun z => if z = true then ((o2 atI (some script) (some k)).bind (fun i => some i)) else (some (0 : Int)))
def Mesh_i (width : Int) (height : Int) (room : Int) : Option Mesh :=
  ((some width).bind fun (z0 : Int) => ((some height).bind fun (z1 : Int) => ((some room).bind fun (z2 : Int) => (some ⟨z0, z1, z2⟩))))
def Mesh_cores (self : Mesh) : Option Int :=
  (o2 mulG (o1 Mesh.width (some self)) (o1 Mesh.height (some self)))
def p_way (mesh : Mesh) (core : Int) (destination : Int) : Option Str :=
  ((o1 Mesh.width (some mesh)).bind fun (width : Int) => ((o2 (fun x y => some (decide (x < y))) (o2 modG (some destination) (some width)) (o2 modG (some core) (some width))).bind fun z => if z = true then (some ("west" : Str)) else ((o2 (fun x y => some (decide (y < x))) (o2 modG (some destination) (some width)) (o2 modG (some core) (some width))).bind fun z => if z = true then (some ("east" : Str)) else ((o2 (fun x y => some (decide (x < y))) (o2 divG (some destination) (some width)) (o2 divG (some core) (some width))).bind fun z => if z = true then (some ("north" : Str)) else ((o2 (fun x y => some (decide (y < x))) (o2 divG (some destination) (some width)) (o2 divG (some core) (some width))).bind fun z => if z = true then (some ("south" : Str)) else (some ("home" : Str)))))))
def p_distance (mesh : Mesh) (first : Int) (second : Int) : Option Int :=
  ((o1 Mesh.width (some mesh)).bind fun (width : Int) => (o2 (fun x y => some (x + y)) ((o2 (fun x y => some (x - y)) (o2 modG (some first) (some width)) (o2 modG (some second) (some width))).bind (fun i => some (if i < 0 then -i else i))) ((o2 (fun x y => some (x - y)) (o2 divG (some first) (some width)) (o2 divG (some second) (some width))).bind (fun i => some (if i < 0 then -i else i)))))
def law_m_b1 (mesh : Mesh) (last : Int) (at_ : Int) (k : Int) : Option ((Lp (Int) Bool)) :=
  (((a2 (some mesh) (a2 (some at_) (some last))).bind (fun p => p_way p.1 p.2.1 p.2.2)).bind fun (told : Str) => ((o2 modG (some at_) (o1 Mesh.width (some mesh))).bind fun (x_ : Int) => ((o2 divG (some at_) (o1 Mesh.width (some mesh))).bind fun (y : Int) => ((o2 (fun x y => some (decide (y < x))) (some x_) (o2 modG (some last) (o1 Mesh.width (some mesh)))).bind fun z => (if z = true then ((a2 (some ("west" : Str)) (o2 (fun x y => some (x - y)) (some at_) (some (1 : Int)))).bind fun (due : (Str × Int)) => (some due)) else ((o2 (fun x y => some (decide (x < y))) (some x_) (o2 modG (some last) (o1 Mesh.width (some mesh)))).bind fun z => if z = true then ((a2 (some ("east" : Str)) (o2 (fun x y => some (x + y)) (some at_) (some (1 : Int)))).bind fun (due : (Str × Int)) => (some due)) else ((o2 (fun x y => some (decide (y < x))) (some y) (o2 divG (some last) (o1 Mesh.width (some mesh)))).bind fun z => if z = true then ((a2 (some ("north" : Str)) (o2 (fun x y => some (x - y)) (some at_) (o1 Mesh.width (some mesh)))).bind fun (due : (Str × Int)) => (some due)) else ((a2 (some ("south" : Str)) (o2 (fun x y => some (x + y)) (some at_) (o1 Mesh.width (some mesh)))).bind fun (due : (Str × Int)) => (some due))))).bind fun (s2 : (Str × Int)) => ((o2 (fun x y => some (!decide (x = y))) (some told) (o1 (fun (z : (Str × Int)) => z.1) (some s2))).bind fun z => if z = true then ((some false).bind fun y => some (.rt y)) else ((o1 (fun (z : (Str × Int)) => z.2) (some s2)).bind fun (at_ : Int) => (some (.nx at_))))))))
def law_m (script : (List Int)) : Option Bool :=
  (((a2 (some script) (some (0 : Int))).bind (fun p => l_cell p.1 p.2)).bind fun (shape : Int) => (((a2 (o2 (fun x y => some (x + y)) (some (1 : Int)) (o2 modG (some shape) (some (8 : Int)))) (a2 (o2 (fun x y => some (x + y)) (some (1 : Int)) (o2 modG (o2 divG (some shape) (some (8 : Int))) (some (8 : Int)))) (o2 (fun x y => some (x + y)) (some (1 : Int)) (o2 modG (o2 divG (some shape) (some (64 : Int))) (some (8 : Int)))))).bind (fun p => Mesh_i p.1 p.2.1 p.2.2)).bind fun (mesh : Mesh) => ((o2 modG ((a2 (some script) (some (1 : Int))).bind (fun p => l_cell p.1 p.2)) ((some mesh).bind Mesh_cores)).bind fun (first : Int) => ((o2 modG ((a2 (some script) (some (2 : Int))).bind (fun p => l_cell p.1 p.2)) ((some mesh).bind Mesh_cores)).bind fun (last : Int) => ((o2 (fun x y => some (decide (x = y))) (o2 modG (o2 divG (some shape) (some (512 : Int))) (some (5 : Int))) (some (1 : Int))).bind fun z => (if z = true then ((some first).bind fun (last : Int) => (some last)) else (some last)).bind fun (s1 : Int) => ((o2 (fun x y => some (x + y)) ((o2 (fun x y => some (x - y)) (o2 modG (some first) (o1 Mesh.width (some mesh))) (o2 modG (some s1) (o1 Mesh.width (some mesh)))).bind (fun i => some (if i < 0 then -i else i))) ((o2 (fun x y => some (x - y)) (o2 divG (some first) (o1 Mesh.width (some mesh))) (o2 divG (some s1) (o1 Mesh.width (some mesh)))).bind (fun i => some (if i < 0 then -i else i)))).bind fun (far : Int) => ((orO (o2 (fun x y => some (!decide (x = y))) ((a2 (some mesh) (a2 (some first) (some s1))).bind (fun p => p_distance p.1 p.2.1 p.2.2)) (some far)) (o2 (fun x y => some (!decide (x = y))) ((a2 (some mesh) (a2 (some s1) (some first))).bind (fun p => p_distance p.1 p.2.1 p.2.2)) (some far))).bind fun z => if z = true then (some false) else ((some first).bind fun (at_ : Int) => (((some far).bind rngG).bind fun xs => (forO (fun (ls1 : Int) lx1 => law_m_b1 mesh s1 ls1 lx1) at_ xs).bind fun l => rsB l (fun (s3 : Int) => (andO (o2 (fun x y => some (decide (x = y))) (some s3) (some s1)) (o2 (fun x y => some (decide (x = y))) ((a2 (some mesh) (a2 (some s3) (some s1))).bind (fun p => p_way p.1 p.2.1 p.2.2)) (some ("home" : Str))))) (fun r => r))))))))))
end M
namespace M
open PySem L2 G
theorem ite_pos' {α : Type} {c : Prop} [Decidable c] {a b : α} (h : c) : (if c then a else b) = a := if_pos h
theorem modG_pos {i j : Int} (h : 0 < j) : modG i j = some (i % j) := if_pos h
theorem divG_pos {i j : Int} (h : 0 < j) (h2 : j < 1073741824) : divG i j = some (i / j) := if_pos ⟨h, h2⟩
theorem mulG_l {i j : Int} (h : -(2 ^ 64) < i ∧ i < 2 ^ 64) : mulG i j = some (i * j) := if_pos (.inl h)
theorem atI_get' {α : Type} {xs : List α} {k : Nat} (h : k < xs.length) : atI xs (k : Int) = some xs[k] := atI_nat (by simp [h])
theorem cell_eq (xs : List Int) (k : Nat) : l_cell xs (k : Int) = some (xs.getD k 0) := by
  unfold l_cell
  simp only [Option.bind_some, o2_some]
  by_cases h : k < xs.length
  · rw [if_pos (by simp; omega), atI_get' h]
    simp [List.getD, h]
  · rw [if_neg (by simp; omega)]
    simp [List.getD, Nat.le_of_not_lt h]
theorem euclid {w q r : Int} (h0 : 0 ≤ r) (h1 : r < w) : (w * q + r) % w = r ∧ (w * q + r) / w = q := by
  constructor
  · rw [Int.mul_add_emod_self_left]; exact Int.emod_eq_of_lt h0 h1
  · rw [Int.mul_add_ediv_left _ _ (by omega), Int.ediv_eq_zero_of_lt h0 h1]; omega
/-- what is left to go -/
def dist (w a l : Int) : Int := (if a % w - l % w < 0 then -(a % w - l % w) else a % w - l % w) + (if a / w - l / w < 0 then -(a / w - l / w) else a / w - l / w)
theorem distance_eq {m : Mesh} (h0 : 0 < m.width) (h1 : m.width < 1073741824) (a b : Int) : p_distance m a b = some (dist m.width a b) := by
  unfold p_distance dist
  simp only [o1_some, Option.bind_some, o2_some, modG_pos h0, divG_pos h0 h1]
theorem turn {m : Mesh} (h0 : 0 < m.width) (h1 : m.width < 1073741824) {l a k : Int} {n : Nat} (hd : dist m.width a l = (n : Int) + 1) : ∃ a', law_m_b1 m l a k = some (.nx a') ∧ dist m.width a' l = n := by
  have ea := Int.mul_ediv_add_emod a m.width
  have r0 := Int.emod_nonneg a (Int.ne_of_gt h0)
  have r1 := Int.emod_lt_of_pos a h0
  have l0 := Int.emod_nonneg l (Int.ne_of_gt h0)
  have l1 := Int.emod_lt_of_pos l h0
  unfold law_m_b1 p_way
  simp only [o1_some, Option.bind_some, o2_some, a2_some, modG_pos h0, divG_pos h0 h1]
  unfold dist at hd ⊢
  generalize hx : a % m.width = x at *
  generalize hy : a / m.width = y at *
  generalize l % m.width = xl at *
  generalize l / m.width = yl at *
  by_cases c1 : xl < x
  · have e := euclid (w := m.width) (q := y) (r := x - 1) (by omega) (by omega)
    refine ⟨a - 1, by simp [c1], ?_⟩
    rw [show a - 1 = m.width * y + (x - 1) by omega, e.1, e.2]
    omega
  · by_cases c2 : x < xl
    · have e := euclid (w := m.width) (q := y) (r := x + 1) (by omega) (by omega)
      refine ⟨a + 1, by simp [c1, c2], ?_⟩
      rw [show a + 1 = m.width * y + (x + 1) by omega, e.1, e.2]
      omega
    · by_cases c3 : yl < y
      · have e := euclid (w := m.width) (q := y - 1) (r := x) (by omega) (by omega)
        refine ⟨a - m.width, by simp [c1, c2, c3], ?_⟩
        rw [show a - m.width = m.width * (y - 1) + x by rw [Int.mul_sub]; omega, e.1, e.2]
        omega
      · have c4 : y < yl := by omega
        have e := euclid (w := m.width) (q := y + 1) (r := x) (by omega) (by omega)
        refine ⟨a + m.width, by simp [c1, c2, c3, c4], ?_⟩
        rw [show a + m.width = m.width * (y + 1) + x by rw [Int.mul_add]; omega, e.1, e.2]
        omega
theorem loop {m : Mesh} (h0 : 0 < m.width) (h1 : m.width < 1073741824) {l : Int} : ∀ (xs : List Int) (a : Int), dist m.width a l = xs.length → ∃ a', forO (fun (s : Int) x => law_m_b1 m l s x) a xs = some (.go a') ∧ dist m.width a' l = 0
  | [], a, h => ⟨a, rfl, h⟩
  | x :: xs, a, h => by
    obtain ⟨a1, e1, d1⟩ := turn h0 h1 (k := x) (n := xs.length) (show dist m.width a l = (xs.length : Int) + 1 by rw [h]; simp)
    obtain ⟨a2, e2, d2⟩ := loop h0 h1 xs a1 d1
    refine ⟨a2, ?_, d2⟩
    show (law_m_b1 m l a x).bind _ = _
    rw [e1]
    exact e2
theorem dist_zero {w a l : Int} (h0 : 0 < w) (h : dist w a l = 0) : a = l := by
  have ea := Int.mul_ediv_add_emod a w
  have el := Int.mul_ediv_add_emod l w
  unfold dist at h
  have h1 : a % w = l % w := by omega
  have h2 : a / w = l / w := by omega
  rw [h1, h2] at ea
  omega
theorem dist_nonneg (w a l : Int) : 0 ≤ dist w a l := by unfold dist; omega
theorem dist_comm (w a l : Int) : dist w a l = dist w l a := by unfold dist; omega
theorem dist_le {w a l : Int} (h0 : 0 < w) (hw : w ≤ 8) (ha : 0 ≤ a) (hl : 0 ≤ l) (ha2 : a < 64) (hl2 : l < 64) : dist w a l ≤ 200 := by
  have r0 := Int.emod_nonneg a (Int.ne_of_gt h0)
  have r1 := Int.emod_lt_of_pos a h0
  have l0 := Int.emod_nonneg l (Int.ne_of_gt h0)
  have l1 := Int.emod_lt_of_pos l h0
  have q0 := Int.ediv_nonneg ha (Int.le_of_lt h0)
  have q1 : a / w ≤ a := Int.ediv_le_self _ ha
  have q2 := Int.ediv_nonneg hl (Int.le_of_lt h0)
  have q3 : l / w ≤ l := Int.ediv_le_self _ hl
  unfold dist
  omega
theorem way_home {m : Mesh} (h0 : 0 < m.width) (h1 : m.width < 1073741824) (a : Int) : p_way m a a = some ("home" : Str) := by
  unfold p_way
  simp only [o1_some, Option.bind_some, o2_some, modG_pos h0, divG_pos h0 h1, Int.lt_irrefl, decide_false, Bool.false_eq_true, if_false]
theorem law_true (ns : List Int) (h63 : ns.length ≤ 63) : law_m ns = some true := by
  have c0 : l_cell ns 0 = some (ns.getD 0 0) := cell_eq ns 0
  have c1 : l_cell ns 1 = some (ns.getD 1 0) := cell_eq ns 1
  have c2 : l_cell ns 2 = some (ns.getD 2 0) := cell_eq ns 2
  have p8 : (0 : Int) < 8 := by decide
  have p64 : (0 : Int) < 64 := by decide
  have p512 : (0 : Int) < 512 := by decide
  have p5 : (0 : Int) < 5 := by decide
  unfold law_m Mesh_i Mesh_cores
  simp only [o1_some, Option.bind_some, o2_some, a2_some, c0, c1, c2, modG_pos p8, divG_pos p8 (by decide), divG_pos p64 (by decide), divG_pos p512 (by decide), modG_pos p5]
  generalize ns.getD 0 0 = sh
  generalize ns.getD 1 0 = s1
  generalize ns.getD 2 0 = s2
  have w0 : 0 < 1 + sh % 8 := by omega
  have w8 : 1 + sh % 8 ≤ 8 := by omega
  have h0 : 0 < 1 + sh / 8 % 8 := by omega
  have h8 : 1 + sh / 8 % 8 ≤ 8 := by omega
  generalize hw : 1 + sh % 8 = wd at *
  generalize hh : 1 + sh / 8 % 8 = ht at *
  have cpos : 0 < wd * ht := Int.mul_pos w0 h0
  have c64 : wd * ht ≤ 64 := by
    have := Int.mul_le_mul w8 h8 (Int.le_of_lt h0) (by decide)
    simpa using this
  simp only [mulG_l (show -(2 ^ 64) < wd ∧ wd < 2 ^ 64 by omega), Option.bind_some, o2_some, modG_pos cpos]
  have f0 := Int.emod_nonneg s1 (Int.ne_of_gt cpos)
  have f1 := Int.emod_lt_of_pos s1 cpos
  have g0 := Int.emod_nonneg s2 (Int.ne_of_gt cpos)
  have g1 := Int.emod_lt_of_pos s2 cpos
  generalize s1 % (wd * ht) = fi at *
  have key : ∀ la : Int, 0 ≤ la → la < wd * ht → ∀ r : Int, (((o2 (fun x y => some (x + y)) ((o2 (fun x y => some (x - y)) (o2 modG (some fi) (o1 Mesh.width (some ⟨wd, ht, r⟩))) (o2 modG (some la) (o1 Mesh.width (some ⟨wd, ht, r⟩)))).bind (fun i => some (if i < 0 then -i else i))) ((o2 (fun x y => some (x - y)) (o2 divG (some fi) (o1 Mesh.width (some ⟨wd, ht, r⟩))) (o2 divG (some la) (o1 Mesh.width (some ⟨wd, ht, r⟩)))).bind (fun i => some (if i < 0 then -i else i)))).bind fun (far : Int) => ((orO (o2 (fun x y => some (!decide (x = y))) ((a2 (some (⟨wd, ht, r⟩ : Mesh)) (a2 (some fi) (some la))).bind (fun p => p_distance p.1 p.2.1 p.2.2)) (some far)) (o2 (fun x y => some (!decide (x = y))) ((a2 (some (⟨wd, ht, r⟩ : Mesh)) (a2 (some la) (some fi))).bind (fun p => p_distance p.1 p.2.1 p.2.2)) (some far))).bind fun z => if z = true then (some false) else ((some fi).bind fun (at_ : Int) => (((some far).bind rngG).bind fun xs => (forO (fun (ls1 : Int) lx1 => law_m_b1 ⟨wd, ht, r⟩ la ls1 lx1) at_ xs).bind fun l => rsB l (fun (s3 : Int) => (andO (o2 (fun x y => some (decide (x = y))) (some s3) (some la)) (o2 (fun x y => some (decide (x = y))) ((a2 (some (⟨wd, ht, r⟩ : Mesh)) (a2 (some s3) (some la))).bind (fun p => p_way p.1 p.2.1 p.2.2)) (some ("home" : Str))))) (fun r => r)))))) = some true := by
    intro la hla hlb r
    have hm0 : 0 < (⟨wd, ht, r⟩ : Mesh).width := w0
    have hm1 : (⟨wd, ht, r⟩ : Mesh).width < 1073741824 := by show wd < _; omega
    simp only [o1_some, Option.bind_some, o2_some, a2_some, modG_pos w0, divG_pos w0 (show wd < 1073741824 by omega), distance_eq hm0 hm1]
    rw [dist_comm wd la fi]
    have ed : dist wd fi la = (if fi % wd - la % wd < 0 then -(fi % wd - la % wd) else fi % wd - la % wd) + (if fi / wd - la / wd < 0 then -(fi / wd - la / wd) else fi / wd - la / wd) := rfl
    rw [← ed]
    have d0 := dist_nonneg wd fi la
    have d1 := dist_le w0 w8 f0 hla (by omega) (by omega) (l := la)
    simp only [decide_true, Bool.not_true, orO_some, Bool.or_self, Option.bind_some, Bool.false_eq_true, if_false]
    have hr : rngG (dist wd fi la) = some (irange 0 (dist wd fi la).toNat) := if_pos ⟨by omega, by omega⟩
    rw [hr]
    obtain ⟨a', e1, e2⟩ := loop hm0 hm1 (l := la) (irange 0 (dist wd fi la).toNat) fi (by rw [irange_len]; show dist wd fi la = _; omega)
    have ea : a' = la := dist_zero w0 e2
    subst ea
    simp only [Option.bind_some]
    rw [e1]
    simp only [Option.bind_some, rsB]
    rw [way_home hm0 hm1]
    simp [o2_some, andO_some]
  by_cases c5 : sh / 512 % 5 = 1
  · simp only [c5, decide_true, if_true, Option.bind_some]
    exact key fi f0 f1 _
  · simp only [c5, decide_false, Bool.false_eq_true, if_false, Option.bind_some]
    exact key _ g0 g1 _
end M
namespace W
open PySem PySem.Spec PyProof.Rows L2 G M
def top (i : Nat) : Stmt := PySem.Challenge.pw_spikehold_k05_ways_and_distances.main.body.getD i (.Pass ⟨0, 0, 0, 0⟩)
abbrev s_l_cell : Stmt := top 5
abbrev s_Mesh_init : Stmt := inClass (top 1) 0
abbrev s_Mesh_cores : Stmt := inClass (top 1) 1
abbrev s_p_way : Stmt := top 3
abbrev s_p_distance : Stmt := top 2
abbrev s_law_m : Stmt := top 6
def d_l_cell : He.DefD := ⟨("_law_cell", none), "_law_cell", "_law_cell", defArgs s_l_cell, defBody s_l_cell, defScope s_l_cell, [], []⟩
def d_Mesh_init : He.DefD := ⟨("Mesh", some "__init__"), "__init__", "Mesh.__init__", defArgs s_Mesh_init, defBody s_Mesh_init, defScope s_Mesh_init, [], []⟩
def d_Mesh_cores : He.DefD := ⟨("Mesh", some "cores"), "cores", "Mesh.cores", defArgs s_Mesh_cores, defBody s_Mesh_cores, defScope s_Mesh_cores, [], []⟩
def d_p_way : He.DefD := ⟨("way", none), "way", "way", defArgs s_p_way, defBody s_p_way, defScope s_p_way, [], []⟩
def d_p_distance : He.DefD := ⟨("distance", none), "distance", "distance", defArgs s_p_distance, defBody s_p_distance, defScope s_p_distance, [], []⟩
def d_law_m : He.DefD := ⟨("law", none), "law", "law", defArgs s_law_m, defBody s_law_m, defScope s_law_m, [], []⟩
def fn : List He.DefD := [d_l_cell, d_Mesh_init, d_Mesh_cores, d_p_way, d_p_distance, d_law_m]
def fa : List He.Fa := [.free "len", .free "int", .cls "Mesh", .noat "Mesh" "room", .noat "Mesh" "height", .noat "Mesh" "width", .free "abs", .free "range", .glo "_law_cell", .mkr "Mesh", .glo "Mesh", .meth "Mesh" "cores", .glo "way", .glo "distance", .glo "law"]
structure Txt (K : PySem.W.Frag) (mg : Str → Option Value) : Prop where
  says : He.SaysD fa fn K
  at_ : ∃ h : Heap, K.In h ∧ h.Ns mainGlobals mg
section
variable {K : PySem.W.Frag} {mg : Str → Option Value} (T : Txt K mg)
include T
theorem Txt.glo {x : Str} (i : Nat) (h : fa[i]? = some (.glo x)) : mg x = some (.ref (He.ga K x)) := let ⟨_, X, G⟩ := T.at_; He.glo_ok X G (T.says.fact i h)
theorem Txt.free {x : Str} (i : Nat) (h : fa[i]? = some (.free x)) : mg x = none := let ⟨_, X, G⟩ := T.at_; He.free_ok X G (T.says.fact i h)
theorem Txt.int_ {x : Str} {n : Int} (i : Nat) (h : fa[i]? = some (.int x n)) : ∃ t, mg x = some (.int n t) := let ⟨_, X, G⟩ := T.at_; He.int_ok X G (T.says.fact i h)
theorem Txt.str_ {x z : Str} (i : Nat) (h : fa[i]? = some (.str x z)) : ∃ t, mg x = some (.str z t) := let ⟨_, X, G⟩ := T.at_; He.str_ok X G (T.says.fact i h)
theorem Txt.cls_ {x : Str} (i : Nat) (h : fa[i]? = some (.cls x)) : Cls K (He.ga K x) := He.cls_ok (T.says.fact i h)
theorem Txt.noat {x f : Str} (i : Nat) (h : fa[i]? = some (.noat x f)) : NoAttr K (He.ga K x) f := He.noat_ok (T.says.fact i h)
theorem Txt.meth {x m : Str} (i : Nat) (h : fa[i]? = some (.meth x m)) : Meth K (He.ga K x) m (He.ma K (He.ga K x) m) := He.meth_ok (T.says.fact i h)
theorem Txt.mkr {x : Str} (i : Nat) (h : fa[i]? = some (.mkr x)) : Mk K (He.ga K x) (He.ma K (He.ga K x) "__init__") := He.mkr_ok (T.says.fact i h)
theorem Txt.def_ (i : Nat) {d : He.DefD} (h : fn[i]? = some d) : ∃ fd, FunD K d.name d.qual d.params d.body d.scope (d.dvs K) (d.kws K) (He.fAd K d.at_) fd := T.says.def_ i h
end
def s_Mesh (K : PySem.W.Frag) (x : Mesh) : List Slot := [.val (tInt.P x.width), .val (tInt.P x.height), .val (tInt.P x.room)]
abbrev m_Mesh (K : PySem.W.Frag) (x : Mesh) : MO := mObj (He.ga K "Mesh") n_Mesh (s_Mesh K x)
abbrev t_Mesh (K : PySem.W.Frag) : Ty Mesh := tObj (He.ga K "Mesh") n_Mesh (s_Mesh K)
theorem f_Mesh_width {K : PySem.W.Frag} {mg : Str → Option Value} (T : Txt K mg) : FldOk K (t_Mesh K) "width" tInt Mesh.width := fldOk (j := 0) (T.cls_ 2 rfl) (T.noat 5 rfl) (by decide +kernel) rfl (fun _ => rfl)
theorem f_Mesh_height {K : PySem.W.Frag} {mg : Str → Option Value} (T : Txt K mg) : FldOk K (t_Mesh K) "height" tInt Mesh.height := fldOk (j := 1) (T.cls_ 2 rfl) (T.noat 4 rfl) (by decide +kernel) rfl (fun _ => rfl)
theorem f_Mesh_room {K : PySem.W.Frag} {mg : Str → Option Value} (T : Txt K mg) : FldOk K (t_Mesh K) "room" tInt Mesh.room := fldOk (j := 2) (T.cls_ 2 rfl) (T.noat 3 rfl) (by decide +kernel) rfl (fun _ => rfl)
theorem sc_l_cell : FnScope ["_law_script", "_law_k"] ["_law_script", "_law_k"] (defScope s_l_cell) := ⟨rfl, rfl, rfl, by decide +kernel, rfl, by decide +kernel, by decide +kernel⟩
theorem ok_l_cell {P : Program} {w : World} {K : PySem.W.Frag} {mg : Str → Option Value} {base : Heap} (T : Txt K mg) {f : Addr} {fd : FuncData} (F : FunD K "_law_cell" "_law_cell" (defArgs s_l_cell) (defBody s_l_cell) (defScope s_l_cell) [] [] f fd) : FnOk P w K mg base CX0 1 f fd ["_law_script", "_law_k"] (spF (tCons (tScr K) (tOne tInt)) (fun p => l_cell p.1 p.2) tInt) :=
  okF F sc_l_cell rfl (fun cdv A outer s H E hr q => 
   (bl_ifx (et_cmp (ec_op oc_lt (ev_var (i := 1) rfl rfl (.inl rfl)) (ev_bi bi_lenS rfl (T.free 0 rfl) (ea_one (ev_var (i := 0) rfl rfl (.inl rfl)))))) (bl_retF (fun _ => rfl) (ev_bi bi_int rfl (T.free 1 rfl) (ea_one (ev_ixS (ev_var (i := 0) rfl rfl (.inl rfl)) (ev_var (i := 1) rfl rfl (.inl rfl)))))) (bl_retF (fun _ => rfl) ev_int)))
theorem D_l_cell {P : Program} {w : World} {K : PySem.W.Frag} {mg : Str → Option Value} {base : Heap} (T : Txt K mg) : Dfn P w K mg base "_law_cell" 1 [] (spF (tCons (tScr K) (tOne tInt)) (fun p => l_cell p.1 p.2) tInt) := by
  obtain ⟨fd, F⟩ := T.def_ 0 (d := d_l_cell) rfl
  exact ⟨_, fd, ["_law_script", "_law_k"], [], (T.glo 8 rfl), F.kp, (F.bindsN fun _ _ _ _ _ _ us hl => match us, hl with | [_, _], _ => rfl), .nil, ok_l_cell T F⟩
theorem sc_Mesh_init : FnScope ["self", "width", "height", "room"] ["self", "width", "height", "room"] (defScope s_Mesh_init) := ⟨rfl, rfl, rfl, by decide +kernel, rfl, by decide +kernel, by decide +kernel⟩
theorem ok_Mesh_init {P : Program} {w : World} {K : PySem.W.Frag} {mg : Str → Option Value} {base : Heap} (T : Txt K mg) {f : Addr} {fd : FuncData} (F : FunD K "__init__" "Mesh.__init__" (defArgs s_Mesh_init) (defBody s_Mesh_init) (defScope s_Mesh_init) [] [] f fd) : FnOk P w K mg base CX0 1 f fd ["self", "width", "height", "room"] (spI (He.ga K "Mesh") (tCons tInt (tCons tInt (tOne tInt))) (fun p => Mesh_i p.1 p.2.1 p.2.2) (m_Mesh K)) :=
  okI F sc_Mesh_init rfl (fun cdv A outer s H E hr q u => 
   (bl_fldI (i := 0) rfl rfl (.inl rfl) (T.cls_ 2 rfl) (T.noat 5 rfl) (ev_var (i := 1) rfl rfl (.inl rfl)) fun z0 => (bl_fldI (i := 0) rfl rfl (.inl rfl) (T.cls_ 2 rfl) (T.noat 4 rfl) (ev_var (i := 2) rfl rfl (.inl rfl)) fun z1 => (bl_fldI (i := 0) rfl rfl (.inl rfl) (T.cls_ 2 rfl) (T.noat 3 rfl) (ev_var (i := 3) rfl rfl (.inl rfl)) fun z2 => (bl_end rfl (endI rfl))))))
theorem D_Mesh_init {P : Program} {w : World} {K : PySem.W.Frag} {mg : Str → Option Value} {base : Heap} (T : Txt K mg) : Mak P w K mg base "Mesh" (He.ga K "Mesh") 1 [] (spI (He.ga K "Mesh") (tCons tInt (tCons tInt (tOne tInt))) (fun p => Mesh_i p.1 p.2.1 p.2.2) (m_Mesh K)) := by
  obtain ⟨fd, F⟩ := T.def_ 1 (d := d_Mesh_init) rfl
  exact ⟨_, fd, ["self", "width", "height", "room"], [], (T.glo 10 rfl), (T.mkr 9 rfl), (F.bindsN fun _ _ _ _ _ _ us hl => match us, hl with | [_, _, _, _], _ => rfl), .nil, ok_Mesh_init T F⟩
theorem sc_Mesh_cores : FnScope ["self"] ["self"] (defScope s_Mesh_cores) := ⟨rfl, rfl, rfl, by decide +kernel, rfl, by decide +kernel, by decide +kernel⟩
theorem ok_Mesh_cores {P : Program} {w : World} {K : PySem.W.Frag} {mg : Str → Option Value} {base : Heap} (T : Txt K mg) {f : Addr} {fd : FuncData} (F : FunD K "cores" "Mesh.cores" (defArgs s_Mesh_cores) (defBody s_Mesh_cores) (defScope s_Mesh_cores) [] [] f fd) : FnOk P w K mg base CX0 1 f fd ["self"] (spF (tOne (t_Mesh K)) (fun p => Mesh_cores p) tInt) :=
  okF F sc_Mesh_cores rfl (fun cdv A outer s H E hr q => 
   (bl_retF (fun _ => rfl) (ev_op ot_mul (ev_fld (f_Mesh_width T) (ev_var (i := 0) rfl rfl (.inl rfl))) (ev_fld (f_Mesh_height T) (ev_var (i := 0) rfl rfl (.inl rfl))))))
theorem D_Mesh_cores {P : Program} {w : World} {K : PySem.W.Frag} {mg : Str → Option Value} {base : Heap} (T : Txt K mg) : Mth P w K mg base (He.ga K "Mesh") "cores" 1 [] (spF (tOne (t_Mesh K)) (fun p => Mesh_cores p) tInt) := by
  obtain ⟨fd, F⟩ := T.def_ 2 (d := d_Mesh_cores) rfl
  exact ⟨_, fd, ["self"], [], (T.cls_ 2 rfl), (T.meth 11 rfl), (F.bindsN fun _ _ _ _ _ _ us hl => match us, hl with | [_], _ => rfl), .nil, ok_Mesh_cores T F⟩
theorem sc_p_way : FnScope ["mesh", "core", "destination", "width"] ["mesh", "core", "destination"] (defScope s_p_way) := ⟨rfl, rfl, rfl, by decide +kernel, rfl, by decide +kernel, by decide +kernel⟩
theorem ok_p_way {P : Program} {w : World} {K : PySem.W.Frag} {mg : Str → Option Value} {base : Heap} (T : Txt K mg) {f : Addr} {fd : FuncData} (F : FunD K "way" "way" (defArgs s_p_way) (defBody s_p_way) (defScope s_p_way) [] [] f fd) : FnOk P w K mg base CX0 1 f fd ["mesh", "core", "destination"] (spF (tCons (t_Mesh K) (tCons tInt (tOne tInt))) (fun p => p_way p.1 p.2.1 p.2.2) tStr) :=
  okF F sc_p_way rfl (fun cdv A outer s H E hr q => 
   (bl_asg (i := 3) sc_p_way.nd rfl (.inl rfl) (ev_fld (f_Mesh_width T) (ev_var (i := 0) rfl rfl (.inl rfl))) fun width => (bl_ifx (et_cmp (ec_op oc_lt (ev_op ot_mod (ev_var (i := 2) rfl rfl (.inl rfl)) (ev_var (i := 3) rfl rfl (.inl rfl))) (ev_op ot_mod (ev_var (i := 1) rfl rfl (.inl rfl)) (ev_var (i := 3) rfl rfl (.inl rfl))))) (bl_retF (fun _ => rfl) ev_str) (bl_ifx (et_cmp (ec_op oc_gt (ev_op ot_mod (ev_var (i := 2) rfl rfl (.inl rfl)) (ev_var (i := 3) rfl rfl (.inl rfl))) (ev_op ot_mod (ev_var (i := 1) rfl rfl (.inl rfl)) (ev_var (i := 3) rfl rfl (.inl rfl))))) (bl_retF (fun _ => rfl) ev_str) (bl_ifx (et_cmp (ec_op oc_lt (ev_op ot_div (ev_var (i := 2) rfl rfl (.inl rfl)) (ev_var (i := 3) rfl rfl (.inl rfl))) (ev_op ot_div (ev_var (i := 1) rfl rfl (.inl rfl)) (ev_var (i := 3) rfl rfl (.inl rfl))))) (bl_retF (fun _ => rfl) ev_str) (bl_ifx (et_cmp (ec_op oc_gt (ev_op ot_div (ev_var (i := 2) rfl rfl (.inl rfl)) (ev_var (i := 3) rfl rfl (.inl rfl))) (ev_op ot_div (ev_var (i := 1) rfl rfl (.inl rfl)) (ev_var (i := 3) rfl rfl (.inl rfl))))) (bl_retF (fun _ => rfl) ev_str) (bl_retF (fun _ => rfl) ev_str)))))))
theorem D_p_way {P : Program} {w : World} {K : PySem.W.Frag} {mg : Str → Option Value} {base : Heap} (T : Txt K mg) : Dfn P w K mg base "way" 1 [] (spF (tCons (t_Mesh K) (tCons tInt (tOne tInt))) (fun p => p_way p.1 p.2.1 p.2.2) tStr) := by
  obtain ⟨fd, F⟩ := T.def_ 3 (d := d_p_way) rfl
  exact ⟨_, fd, ["mesh", "core", "destination"], [], (T.glo 12 rfl), F.kp, (F.bindsN fun _ _ _ _ _ _ us hl => match us, hl with | [_, _, _], _ => rfl), .nil, ok_p_way T F⟩
theorem sc_p_distance : FnScope ["mesh", "first", "second", "width"] ["mesh", "first", "second"] (defScope s_p_distance) := ⟨rfl, rfl, rfl, by decide +kernel, rfl, by decide +kernel, by decide +kernel⟩
theorem ok_p_distance {P : Program} {w : World} {K : PySem.W.Frag} {mg : Str → Option Value} {base : Heap} (T : Txt K mg) {f : Addr} {fd : FuncData} (F : FunD K "distance" "distance" (defArgs s_p_distance) (defBody s_p_distance) (defScope s_p_distance) [] [] f fd) : FnOk P w K mg base CX0 1 f fd ["mesh", "first", "second"] (spF (tCons (t_Mesh K) (tCons tInt (tOne tInt))) (fun p => p_distance p.1 p.2.1 p.2.2) tInt) :=
  okF F sc_p_distance rfl (fun cdv A outer s H E hr q => 
   (bl_asg (i := 3) sc_p_distance.nd rfl (.inl rfl) (ev_fld (f_Mesh_width T) (ev_var (i := 0) rfl rfl (.inl rfl))) fun width => (bl_retF (fun _ => rfl) (ev_op ot_add (ev_bi bi_abs rfl (T.free 6 rfl) (ea_one (ev_op ot_sub (ev_op ot_mod (ev_var (i := 1) rfl rfl (.inl rfl)) (ev_var (i := 3) rfl rfl (.inl rfl))) (ev_op ot_mod (ev_var (i := 2) rfl rfl (.inl rfl)) (ev_var (i := 3) rfl rfl (.inl rfl)))))) (ev_bi bi_abs rfl (T.free 6 rfl) (ea_one (ev_op ot_sub (ev_op ot_div (ev_var (i := 1) rfl rfl (.inl rfl)) (ev_var (i := 3) rfl rfl (.inl rfl))) (ev_op ot_div (ev_var (i := 2) rfl rfl (.inl rfl)) (ev_var (i := 3) rfl rfl (.inl rfl))))))))))
theorem D_p_distance {P : Program} {w : World} {K : PySem.W.Frag} {mg : Str → Option Value} {base : Heap} (T : Txt K mg) : Dfn P w K mg base "distance" 1 [] (spF (tCons (t_Mesh K) (tCons tInt (tOne tInt))) (fun p => p_distance p.1 p.2.1 p.2.2) tInt) := by
  obtain ⟨fd, F⟩ := T.def_ 4 (d := d_p_distance) rfl
  exact ⟨_, fd, ["mesh", "first", "second"], [], (T.glo 13 rfl), F.kp, (F.bindsN fun _ _ _ _ _ _ us hl => match us, hl with | [_, _, _], _ => rfl), .nil, ok_p_distance T F⟩
theorem sc_law_m : FnScope ["_law_script", "_law_shape", "_law_mesh", "_law_first", "_law_last", "_law_far", "_law_at", "_law_k", "_law_told", "_law_x", "_law_y", "_law_due"] ["_law_script"] (defScope s_law_m) := ⟨rfl, rfl, rfl, by decide +kernel, rfl, by decide +kernel, by decide +kernel⟩
theorem ok_law_m {P : Program} {w : World} {K : PySem.W.Frag} {mg : Str → Option Value} {base : Heap} (T : Txt K mg) {f : Addr} {fd : FuncData} (F : FunD K "law" "law" (defArgs s_law_m) (defBody s_law_m) (defScope s_law_m) [] [] f fd) : FnOk P w K mg base CX0 3 f fd ["_law_script"] (spF (tOne (tScr K)) (fun p => law_m p) tBool) :=
  okF F sc_law_m rfl (fun cdv A outer s H E hr q => 
   (bl_asg (i := 1) sc_law_m.nd rfl (.inl rfl) (ev_call (D_l_cell T) (hr.mono (by decide)) rfl (ea_cons (ev_var (i := 0) rfl rfl (.inl rfl)) (ea_one ev_int))) fun shape => (bl_asg (i := 2) sc_law_m.nd rfl (.inl rfl) (ev_of_eo (eo_make (fun p => p) (D_Mesh_init T) (fun x vs B r => by rw [List.append_nil]; exact r) (hr.mono (by decide)) rfl (ea_cons (ev_op ot_add ev_int (ev_op ot_mod (ev_var (i := 1) rfl rfl (.inl rfl)) ev_int)) (ea_cons (ev_op ot_add ev_int (ev_op ot_mod (ev_op ot_div (ev_var (i := 1) rfl rfl (.inl rfl)) ev_int) ev_int)) (ea_one (ev_op ot_add ev_int (ev_op ot_mod (ev_op ot_div (ev_var (i := 1) rfl rfl (.inl rfl)) ev_int) ev_int))))))) fun mesh => (bl_asg (i := 3) sc_law_m.nd rfl (.inl rfl) (ev_op ot_mod (ev_call (D_l_cell T) (hr.mono (by decide)) rfl (ea_cons (ev_var (i := 0) rfl rfl (.inl rfl)) (ea_one ev_int))) (ev_meth0 (D_Mesh_cores T) (isIns (by decide +kernel)) (hr.mono (by decide)) (ev_var (i := 2) rfl rfl (.inl rfl)))) fun first => (bl_asg (i := 4) sc_law_m.nd rfl (.inl rfl) (ev_op ot_mod (ev_call (D_l_cell T) (hr.mono (by decide)) rfl (ea_cons (ev_var (i := 0) rfl rfl (.inl rfl)) (ea_one ev_int))) (ev_meth0 (D_Mesh_cores T) (isIns (by decide +kernel)) (hr.mono (by decide)) (ev_var (i := 2) rfl rfl (.inl rfl)))) fun last => (bl_if (Γj := fun (s1 : Int) => [.val ((tScr K).P q), .val (tInt.P shape), .val ((t_Mesh K).P mesh), .val (tInt.P first), .val (tInt.P s1), .any, .any, .any, .any, .any, .any, .any]) (et_cmp (ec_op oc_eq (ev_op ot_mod (ev_op ot_div (ev_var (i := 1) rfl rfl (.inl rfl)) ev_int) ev_int) ev_int)) (bl_asg (i := 4) sc_law_m.nd rfl (.inl rfl) (ev_var (i := 3) rfl rfl (.inl rfl)) fun last => (bl_nil (.eq (.eq (.eq (.eq (.eq (.eq (.eq (.eq (.eq (.eq (.eq (.eq .nil)))))))))))) rfl)) (bl_nil (.eq (.eq (.eq (.eq (.eq (.eq (.eq (.eq (.eq (.eq (.eq (.eq .nil)))))))))))) rfl) fun s1 => (bl_asg (i := 5) sc_law_m.nd rfl (.inl rfl) (ev_op ot_add (ev_bi bi_abs rfl (T.free 6 rfl) (ea_one (ev_op ot_sub (ev_op ot_mod (ev_var (i := 3) rfl rfl (.inl rfl)) (ev_fld (f_Mesh_width T) (ev_var (i := 2) rfl rfl (.inl rfl)))) (ev_op ot_mod (ev_var (i := 4) rfl rfl (.inl rfl)) (ev_fld (f_Mesh_width T) (ev_var (i := 2) rfl rfl (.inl rfl))))))) (ev_bi bi_abs rfl (T.free 6 rfl) (ea_one (ev_op ot_sub (ev_op ot_div (ev_var (i := 3) rfl rfl (.inl rfl)) (ev_fld (f_Mesh_width T) (ev_var (i := 2) rfl rfl (.inl rfl)))) (ev_op ot_div (ev_var (i := 4) rfl rfl (.inl rfl)) (ev_fld (f_Mesh_width T) (ev_var (i := 2) rfl rfl (.inl rfl)))))))) fun far => (bl_ifx (et_w (ew_or (et_cmp (ec_op oc_ne (ev_call (D_p_distance T) (hr.mono (by decide)) rfl (ea_cons (ev_var (i := 2) rfl rfl (.inl rfl)) (ea_cons (ev_var (i := 3) rfl rfl (.inl rfl)) (ea_one (ev_var (i := 4) rfl rfl (.inl rfl)))))) (ev_var (i := 5) rfl rfl (.inl rfl)))) (ew_or1 (et_cmp (ec_op oc_ne (ev_call (D_p_distance T) (hr.mono (by decide)) rfl (ea_cons (ev_var (i := 2) rfl rfl (.inl rfl)) (ea_cons (ev_var (i := 4) rfl rfl (.inl rfl)) (ea_one (ev_var (i := 3) rfl rfl (.inl rfl)))))) (ev_var (i := 5) rfl rfl (.inl rfl))))))) (bl_retF (fun _ => rfl) ev_bl) (bl_asg (i := 6) sc_law_m.nd rfl (.inl rfl) (ev_var (i := 3) rfl rfl (.inl rfl)) fun at_ => (bl_forx (Γl := fun (ls1 : Int) => [.val ((tScr K).P q), .val (tInt.P shape), .val ((t_Mesh K).P mesh), .val (tInt.P first), .val (tInt.P s1), .val (tInt.P far), .val (tInt.P ls1), .any, .any, .any, .any, .any]) (f := (fun (ls1 : Int) lx1 => law_m_b1 mesh s1 ls1 lx1)) (post := (fun r v B (_ : Hp) => tBool.rel r v B)) PassesOwn.never rfl (pim_range1 rfl (T.free 7 rfl) (ev_var (i := 5) rfl rfl (.inl rfl))) (pgm_name (i := 7) sc_law_m.nd rfl (.inl rfl)) (.eq (.eq (.eq (.eq (.eq (.eq (.eq (.eq (.eq (.eq (.eq (.eq .nil)))))))))))) (fun _ => rfl) (fun ls1 lx1 => (bl_asg (i := 8) sc_law_m.nd rfl (.inl rfl) (ev_call (D_p_way T) (hr.mono (by decide)) rfl (ea_cons (ev_var (i := 2) rfl rfl (.inl rfl)) (ea_cons (ev_var (i := 6) rfl rfl (.inl rfl)) (ea_one (ev_var (i := 4) rfl rfl (.inl rfl)))))) fun told => (bl_asg (i := 9) sc_law_m.nd rfl (.inl rfl) (ev_op ot_mod (ev_var (i := 6) rfl rfl (.inl rfl)) (ev_fld (f_Mesh_width T) (ev_var (i := 2) rfl rfl (.inl rfl)))) fun x_ => (bl_asg (i := 10) sc_law_m.nd rfl (.inl rfl) (ev_op ot_div (ev_var (i := 6) rfl rfl (.inl rfl)) (ev_fld (f_Mesh_width T) (ev_var (i := 2) rfl rfl (.inl rfl)))) fun y => (bl_if (Γj := fun (s2 : (Str × Int)) => [.val ((tScr K).P q), .val (tInt.P shape), .val ((t_Mesh K).P mesh), .val (tInt.P first), .val (tInt.P s1), .val (tInt.P far), .val (tInt.P ls1), .val (tInt.P lx1), .val (tStr.P told), .val (tInt.P x_), .val (tInt.P y), .val ((tTup K (tCons tStr (tOne tInt))).P s2)]) (et_cmp (ec_op oc_gt (ev_var (i := 9) rfl rfl (.inl rfl)) (ev_op ot_mod (ev_var (i := 4) rfl rfl (.inl rfl)) (ev_fld (f_Mesh_width T) (ev_var (i := 2) rfl rfl (.inl rfl)))))) (bl_asg (i := 11) sc_law_m.nd rfl (.inl rfl) (ev_tup (ea_cons ev_str (ea_one (ev_op ot_sub (ev_var (i := 6) rfl rfl (.inl rfl)) ev_int)))) fun due => (bl_nil (.eq (.eq (.eq (.eq (.eq (.eq (.eq (.eq (.eq (.eq (.eq (.eq .nil)))))))))))) rfl)) (bl_ifl (et_cmp (ec_op oc_lt (ev_var (i := 9) rfl rfl (.inl rfl)) (ev_op ot_mod (ev_var (i := 4) rfl rfl (.inl rfl)) (ev_fld (f_Mesh_width T) (ev_var (i := 2) rfl rfl (.inl rfl)))))) (bl_asg (i := 11) sc_law_m.nd rfl (.inl rfl) (ev_tup (ea_cons ev_str (ea_one (ev_op ot_add (ev_var (i := 6) rfl rfl (.inl rfl)) ev_int)))) fun due => (bl_nil (.eq (.eq (.eq (.eq (.eq (.eq (.eq (.eq (.eq (.eq (.eq (.eq .nil)))))))))))) rfl)) (bl_ifl (et_cmp (ec_op oc_gt (ev_var (i := 10) rfl rfl (.inl rfl)) (ev_op ot_div (ev_var (i := 4) rfl rfl (.inl rfl)) (ev_fld (f_Mesh_width T) (ev_var (i := 2) rfl rfl (.inl rfl)))))) (bl_asg (i := 11) sc_law_m.nd rfl (.inl rfl) (ev_tup (ea_cons ev_str (ea_one (ev_op ot_sub (ev_var (i := 6) rfl rfl (.inl rfl)) (ev_fld (f_Mesh_width T) (ev_var (i := 2) rfl rfl (.inl rfl))))))) fun due => (bl_nil (.eq (.eq (.eq (.eq (.eq (.eq (.eq (.eq (.eq (.eq (.eq (.eq .nil)))))))))))) rfl)) (bl_asg (i := 11) sc_law_m.nd rfl (.inl rfl) (ev_tup (ea_cons ev_str (ea_one (ev_op ot_add (ev_var (i := 6) rfl rfl (.inl rfl)) (ev_fld (f_Mesh_width T) (ev_var (i := 2) rfl rfl (.inl rfl))))))) fun due => (bl_nil (.eq (.eq (.eq (.eq (.eq (.eq (.eq (.eq (.eq (.eq (.eq (.eq .nil)))))))))))) rfl)))) fun s2 => (bl_ifx (et_cmp (ec_op oc_neS (ev_var (i := 8) rfl rfl (.inl rfl)) (ev_ixT (j := 0) (g := fun (z : (Str × Int)) => z.1) at_zero (ev_var (i := 11) rfl rfl (.inl rfl))))) (bl_ret (g := Lp.rt) (fun _ => rfl) retP ev_bl) (bl_asg (i := 6) sc_law_m.nd rfl (.inl rfl) (ev_ixT (j := 1) (g := fun (z : (Str × Int)) => z.2) (at_succ at_one) (ev_var (i := 11) rfl rfl (.inl rfl))) fun at_ => (bl_nil (.eq (.eq (.eq (.eq (.eq (.eq (.eq (.any (.any (.any (.any (.any .nil)))))))))))) rfl)))))))) fun s3 => (bl_retF (fun _ => rfl) (ev_and (ev_cmp (ec_op oc_eq (ev_var (i := 6) rfl rfl (.inl rfl)) (ev_var (i := 4) rfl rfl (.inl rfl)))) (ev_bool1 (ev_cmp (ec_op oc_eqS (ev_call (D_p_way T) (hr.mono (by decide)) rfl (ea_cons (ev_var (i := 2) rfl rfl (.inl rfl)) (ea_cons (ev_var (i := 6) rfl rfl (.inl rfl)) (ea_one (ev_var (i := 4) rfl rfl (.inl rfl)))))) ev_str)))))))))))))))
theorem D_law_m {P : Program} {w : World} {K : PySem.W.Frag} {mg : Str → Option Value} {base : Heap} (T : Txt K mg) : Dfn P w K mg base "law" 3 [] (spF (tOne (tScr K)) (fun p => law_m p) tBool) := by
  obtain ⟨fd, F⟩ := T.def_ 5 (d := d_law_m) rfl
  exact ⟨_, fd, ["_law_script"], [], (T.glo 14 rfl), F.kp, (F.bindsN fun _ _ _ _ _ _ us hl => match us, hl with | [_], _ => rfl), .nil, ok_law_m T F⟩
end W
namespace W
open PySem PySem.Spec PyProof.Rows L2 G M
abbrev Rr : PySem.W.OpenRow := PySem.W.OpenLaw.row PySem.Challenge.rw_spikehold_k05_ways_and_distances
abbrev hk : PySem.W.Hook := He.hookD 4 fa fn
def ob (s : PySem.W.SharedT) : He.AlD := He.obsDG 4 fa fn (HandSHeadRun.getT s)
theorem ob_eq (s : PySem.W.SharedT) : ob s = hk.obs s.abs := He.obsDG_eq (HandSHeadRun.getT_eq s)
theorem run (w : World) : HandSHeadRun.RunEq Rr (PySem.W.view Rr.prog [6]) hk ob 2000 ["__name__", "Mesh", "distance", "way", "_law_cell"] w := by
  intro os
  kernel_rfl
theorem facts {P : Program} {w : World} {K : PySem.W.Frag} {h : Heap} {mg : Str → Option Value} {f : Addr} (X : K.In h) (G' : h.Ns mainGlobals mg) (hfa : mg ("law" : Str) = some (.ref f)) (c : He.SaysD fa fn K) :
    ∃ fd : FuncData, (∀ (s : Shared) (v : Value), BindsTo s fd ⟨[v], []⟩ [("_law_script", v)]) ∧ ∀ base : Heap, FnOk P w K mg base CX0 3 f fd ["_law_script"] (spF (tOne (tScr K)) (fun p => law_m p) tBool) := by
  have T : Txt K mg := ⟨c, h, X, G'⟩
  obtain ⟨fd, F⟩ := T.def_ 5 (d := d_law_m) rfl
  have e := hfa.symm.trans (T.glo 14 rfl)
  cases e
  have b := FunD.bindsA (ps := ["_law_script"]) F fun _ _ _ _ _ _ us hl => match us, hl with | [_], _ => rfl
  exact ⟨fd, fun s v => b s [v] rfl, fun base => ok_law_m T F⟩
end W
open PySem PySem.W PySem.Calls PyProof.Rows
set_option maxRecDepth 100000 in
set_option maxHeartbeats 0 in
theorem PySem.Challenge.cw_spikehold_k05_ways_and_distances_holds : PySem.Challenge.rw_spikehold_k05_ways_and_distances.Holds := by
  w_on; o_law
  refine HandSHeadRun.head_any (r := OpenLaw.row PySem.Challenge.rw_spikehold_k05_ways_and_distances) (q := view (OpenLaw.row PySem.Challenge.rw_spikehold_k05_ways_and_distances).prog [6]) (H := W.hk) (ob := W.ob) (M := 2000) (loose := ["__name__", "Mesh", "distance", "way", "_law_cell"]) (d := HandSHeadRun.topDef (OpenLaw.row PySem.Challenge.rw_spikehold_k05_ways_and_distances).prog 6) (kwd := []) W.ob_eq
    (by kernel_rfl) (fun s => by kernel_rfl) W.run (by kernel_rfl) (by kernel_rfl) (by kernel_rfl) (by rfl) (by first | assumption | decide +kernel) (by decide +kernel) ⟨rfl, rfl, rfl, rfl, rfl, by decide +kernel⟩ ?hw ?hc
  case hw => w_witness2
  case hc =>
    refine L2.walk_ofE (l := PySem.Challenge.rw_spikehold_k05_ways_and_distances) (n := 63) (k := 3) (x := "_law_script") (CX := L2.CX0) rfl (by decide) (by kernel_rfl) ⟨rfl, by decide, by decide⟩ ?F (fun _ _ _ _ z => z)
    intro w mg fa h Y G hmg0
    obtain ⟨K, KX, c⟩ := Y
    have hmg : mg ("law" : PySem.Str) = some (.ref fa) := by
      have e : (HandSHeadRun.topDef (OpenLaw.row PySem.Challenge.rw_spikehold_k05_ways_and_distances).prog 6).name = ("law" : PySem.Str) := by kernel_rfl
      rw [← e]
      exact hmg0
    obtain ⟨fd, hb, hF⟩ := W.facts (P := (PySem.Challenge.rw_spikehold_k05_ways_and_distances).prog) (w := w) KX G hmg c
    exact ⟨K, fd, _, KX, hb, fun H a ns hl _ hS => _root_.G.law_end M.law_true H a ns hl hS, fun base _ _ => hF base⟩
