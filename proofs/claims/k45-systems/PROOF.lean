import PyProof.Rows.All
import Wide.All
import OpenK.AllK
import Wide.FinOn
import HandS.ForMost
import HandS.ForExc
import HandS.IsInst
import HandS.CallSlots
import KE.DatumOrd
import HandS.TupAny
import HandS.TupMul
import HandS.ExcInit
import HandS.ExcField
import HandS.TryOnly
import HandS.Zip
import HandS.Conv
import HandS.SetFor
import HandS.MakeKw
import PySem.Challenge.RW_covernets_k45_systems
set_option Elab.async false
set_option linter.all false
set_option maxRecDepth 100000
set_option maxHeartbeats 4000000
/-! A typed layer over the hand layer: contexts of slots, frozen and owned data, mirrors. -/
namespace TC
open PySem PySem.Spec PyProof.Rows L2

abbrev St := L2.St
/-! ### results -/
structure Ex where
  cls : String
  val : Option Int
  deriving DecidableEq

inductive Res (α : Type) where
  | ok (a : α)
  | er (e : Ex)
  | bad

def Res.bind {α β : Type} : Res α → (α → Res β) → Res β
  | .ok a, k => k a
  | .er e, _ => .er e
  | .bad, _ => .bad
@[simp] theorem Res.bind_ok {α β : Type} (a : α) (k : α → Res β) : (Res.ok a).bind k = k a := rfl
@[simp] theorem Res.bind_er {α β : Type} (e : Ex) (k : α → Res β) : (Res.er e : Res α).bind k = .er e := rfl
@[simp] theorem Res.bind_bad {α β : Type} (k : α → Res β) : (Res.bad : Res α).bind k = .bad := rfl

inductive Out (S L ρ : Type) where
  | nx (s : S)
  | rt (r : ρ)
  | bk (l : L)
  | ct (l : L)
  | er (e : Ex)
  | bad

def Res.out {α S L ρ : Type} : Res α → (α → Out S L ρ) → Out S L ρ
  | .ok a, k => k a
  | .er e, _ => .er e
  | .bad, _ => .bad
@[simp] theorem Res.out_ok {α S L ρ : Type} (a : α) (k : α → Out S L ρ) : (Res.ok a).out k = k a := rfl
@[simp] theorem Res.out_er {α S L ρ : Type} (e : Ex) (k : α → Out S L ρ) : (Res.er e : Res α).out k = .er e := rfl
@[simp] theorem Res.out_bad {α S L ρ : Type} (k : α → Out S L ρ) : (Res.bad : Res α).out k = .bad := rfl

def Out.seq {S S' L ρ : Type} : Out S L ρ → (S → Out S' L ρ) → Out S' L ρ
  | .nx s, k => k s
  | .rt r, _ => .rt r
  | .bk l, _ => .bk l
  | .ct l, _ => .ct l
  | .er e, _ => .er e
  | .bad, _ => .bad
@[simp] theorem Out.seq_nx {S S' L ρ : Type} (s : S) (k : S → Out S' L ρ) : (Out.nx s : Out S L ρ).seq k = k s := rfl
@[simp] theorem Out.seq_rt {S S' L ρ : Type} (r : ρ) (k : S → Out S' L ρ) : (Out.rt r : Out S L ρ).seq k = .rt r := rfl
@[simp] theorem Out.seq_bk {S S' L ρ : Type} (l : L) (k : S → Out S' L ρ) : (Out.bk l : Out S L ρ).seq k = .bk l := rfl
@[simp] theorem Out.seq_ct {S S' L ρ : Type} (l : L) (k : S → Out S' L ρ) : (Out.ct l : Out S L ρ).seq k = .ct l := rfl
@[simp] theorem Out.seq_er {S S' L ρ : Type} (e : Ex) (k : S → Out S' L ρ) : (Out.er e : Out S L ρ).seq k = .er e := rfl
@[simp] theorem Out.seq_bad {S S' L ρ : Type} (k : S → Out S' L ρ) : (Out.bad : Out S L ρ).seq k = .bad := rfl

def Out.res {S L ρ : Type} (fall : S → Res ρ) : Out S L ρ → Res ρ
  | .nx s => fall s
  | .rt r => .ok r
  | .bk _ => .bad
  | .ct _ => .bad
  | .er e => .er e
  | .bad => .bad
@[simp] theorem Out.res_nx {S L ρ : Type} (fall : S → Res ρ) (s : S) : (Out.nx s : Out S L ρ).res fall = fall s := rfl
@[simp] theorem Out.res_rt {S L ρ : Type} (fall : S → Res ρ) (r : ρ) : (Out.rt r : Out S L ρ).res fall = .ok r := rfl
@[simp] theorem Out.res_er {S L ρ : Type} (fall : S → Res ρ) (e : Ex) : (Out.er e : Out S L ρ).res fall = .er e := rfl
@[simp] theorem Out.res_bad {S L ρ : Type} (fall : S → Res ρ) : (Out.bad : Out S L ρ).res fall = .bad := rfl

/-- a for loop over a list -/
def forM {ι L L' ρ : Type} (body : ι → L → Out L L ρ) : List ι → L → Out L L' ρ
  | [], l => .nx l
  | x :: xs, l => match body x l with
    | .nx l' => forM body xs l'
    | .ct l' => forM body xs l'
    | .bk l' => .nx l'
    | .rt r => .rt r
    | .er e => .er e
    | .bad => .bad
@[simp] theorem forM_nil {ι L L' ρ : Type} (body : ι → L → Out L L ρ) (l : L) : (forM body [] l : Out L L' ρ) = .nx l := rfl
theorem forM_cons {ι L L' ρ : Type} (body : ι → L → Out L L ρ) (x : ι) (xs : List ι) (l : L) : (forM body (x :: xs) l : Out L L' ρ) = match body x l with
    | .nx l' => forM body xs l'
    | .ct l' => forM body xs l'
    | .bk l' => .nx l'
    | .rt r => .rt r
    | .er e => .er e
    | .bad => .bad := rfl

/-- a while loop, n turns at most -/
def whileN {L L' ρ : Type} (c : L → Res (Bool × L)) (body : L → Out L L ρ) : Nat → L → Out L L' ρ
  | 0, _ => .bad
  | n + 1, l => match c l with
    | .ok (false, l') => .nx l'
    | .ok (true, l') => match body l' with
      | .nx l2 => whileN c body n l2
      | .ct l2 => whileN c body n l2
      | .bk l2 => .nx l2
      | .rt r => .rt r
      | .er e => .er e
      | .bad => .bad
    | .er e => .er e
    | .bad => .bad
open Classical in
noncomputable def whileM {L L' ρ : Type} (c : L → Res (Bool × L)) (body : L → Out L L ρ) (l : L) : Out L L' ρ :=
  if h : ∃ n, (whileN c body n l : Out L L' ρ) ≠ .bad then whileN c body h.choose l else .bad
theorem whileN_mono {L L' ρ : Type} {c : L → Res (Bool × L)} {body : L → Out L L ρ} : ∀ {n m : Nat} {l : L}, n ≤ m → (whileN c body n l : Out L L' ρ) ≠ .bad → (whileN c body m l : Out L L' ρ) = whileN c body n l
  | 0, _, _, _, h => absurd rfl h
  | n + 1, 0, _, h, _ => absurd h (by omega)
  | n + 1, m + 1, l, hle, h => by
    unfold whileN at h ⊢
    cases e : c l with
    | bad => rfl
    | er x => rfl
    | ok p =>
      obtain ⟨b, l'⟩ := p
      cases b with
      | false => rfl
      | true =>
        simp only [e] at h ⊢
        cases e2 : body l' with
        | nx l2 => simp only [e2] at h ⊢; exact whileN_mono (by omega) h
        | ct l2 => simp only [e2] at h ⊢; exact whileN_mono (by omega) h
        | bk _ => rfl
        | rt _ => rfl
        | er _ => rfl
        | bad => rfl
theorem whileM_eq {L L' ρ : Type} {c : L → Res (Bool × L)} {body : L → Out L L ρ} {n : Nat} {l : L} (h : (whileN c body n l : Out L L' ρ) ≠ .bad) : (whileM c body l : Out L L' ρ) = whileN c body n l := by
  have hx : ∃ n, (whileN c body n l : Out L L' ρ) ≠ .bad := ⟨n, h⟩
  unfold whileM
  rw [dif_pos hx]
  rcases Nat.le_total n hx.choose with q | q
  · exact whileN_mono q h
  · exact (whileN_mono q hx.choose_spec).symm
theorem whileM_exists {L L' ρ : Type} {c : L → Res (Bool × L)} {body : L → Out L L ρ} {l : L} (h : (whileM c body l : Out L L' ρ) ≠ .bad) : ∃ n, (whileN c body n l : Out L L' ρ) ≠ .bad ∧ (whileM c body l : Out L L' ρ) = whileN c body n l := by
  unfold whileM at h
  split at h
  · rename_i hx
    exact ⟨_, h, whileM_eq h⟩
  · exact absurd rfl h
/-- one turn -/
theorem whileM_step {L L' ρ : Type} (c : L → Res (Bool × L)) (body : L → Out L L ρ) (l : L) : (whileM c body l : Out L L' ρ) = match c l with
    | .ok (false, l') => .nx l'
    | .ok (true, l') => match body l' with
      | .nx l2 => whileM c body l2
      | .ct l2 => whileM c body l2
      | .bk l2 => .nx l2
      | .rt r => .rt r
      | .er e => .er e
      | .bad => .bad
    | .er e => .er e
    | .bad => .bad := by
  have one : ∀ n, (whileN c body (n + 1) l : Out L L' ρ) = match c l with
    | .ok (false, l') => .nx l'
    | .ok (true, l') => match body l' with
      | .nx l2 => whileN c body n l2
      | .ct l2 => whileN c body n l2
      | .bk l2 => .nx l2
      | .rt r => .rt r
      | .er e => .er e
      | .bad => .bad
    | .er e => .er e
    | .bad => .bad := fun n => rfl
  have lift : ∀ l2 : L, (∀ n, (whileN c body (n + 1) l : Out L L' ρ) = whileN c body n l2) → (whileM c body l : Out L L' ρ) = whileM c body l2 := fun l2 h => by
    by_cases hx : (whileM c body l2 : Out L L' ρ) = .bad
    · rw [hx]
      by_cases hy : (whileM c body l : Out L L' ρ) = .bad
      · exact hy
      · obtain ⟨n, hn, e⟩ := whileM_exists hy
        cases n with
        | zero => exact absurd rfl hn
        | succ n =>
          rw [h n] at hn
          rw [whileM_eq hn] at hx
          exact absurd hx hn
    · obtain ⟨n, hn, e⟩ := whileM_exists hx
      rw [e, ← h n, whileM_eq]
      rw [h n]; exact hn
  cases e : c l with
  | bad =>
    by_cases hy : (whileM c body l : Out L L' ρ) = .bad
    · exact hy
    · obtain ⟨n, hn, e'⟩ := whileM_exists hy
      cases n with
      | zero => exact absurd rfl hn
      | succ n => rw [one n, e] at hn; exact absurd rfl hn
  | er x =>
    have q : (whileN c body 1 l : Out L L' ρ) = .er x := by rw [one 0, e]
    rw [whileM_eq (n := 1) (by rw [q]; intro z; cases z), q]
  | ok p =>
    obtain ⟨b, l'⟩ := p
    cases b with
    | false =>
      have q : (whileN c body 1 l : Out L L' ρ) = .nx l' := by rw [one 0, e]
      rw [whileM_eq (n := 1) (by rw [q]; intro z; cases z), q]
    | true =>
      cases e2 : body l' with
      | nx l2 => simp only [e2]; exact lift l2 fun n => by rw [one n, e]; simp only [e2]
      | ct l2 => simp only [e2]; exact lift l2 fun n => by rw [one n, e]; simp only [e2]
      | bk l2 =>
        have q : (whileN c body 1 l : Out L L' ρ) = .nx l2 := by rw [one 0, e]; simp only [e2]
        simp only [e2]; rw [whileM_eq (n := 1) (by rw [q]; intro z; cases z), q]
      | rt l2 =>
        have q : (whileN c body 1 l : Out L L' ρ) = .rt l2 := by rw [one 0, e]; simp only [e2]
        simp only [e2]; rw [whileM_eq (n := 1) (by rw [q]; intro z; cases z), q]
      | er l2 =>
        have q : (whileN c body 1 l : Out L L' ρ) = .er l2 := by rw [one 0, e]; simp only [e2]
        simp only [e2]; rw [whileM_eq (n := 1) (by rw [q]; intro z; cases z), q]
      | bad =>
        simp only [e2]
        by_cases hy : (whileM c body l : Out L L' ρ) = .bad
        · exact hy
        · obtain ⟨n, hn, e'⟩ := whileM_exists hy
          cases n with
          | zero => exact absurd rfl hn
          | succ n => rw [one n, e] at hn; simp only [e2] at hn; exact absurd rfl hn

/-- a comprehension -/
def compM {ι S β : Type} (body : ι → S → Res (Option β × S)) : List ι → S → Res (List β × S)
  | [], s => .ok ([], s)
  | x :: xs, s => match body x s with
    | .ok (y, s1) => match compM body xs s1 with
      | .ok (ys, s2) => .ok (match y with | some y => y :: ys | none => ys, s2)
      | .er e => .er e
      | .bad => .bad
    | .er e => .er e
    | .bad => .bad

/-! ### lists of values -/
def All2 {α : Type} (R : V → α → Prop) : List V → List α → Prop
  | [], [] => True
  | v :: vs, x :: xs => R v x ∧ All2 R vs xs
  | _, _ => False
section
variable {α β : Type} {R R' : V → α → Prop}
theorem All2.length : ∀ {vs : List V} {xs : List α}, All2 R vs xs → vs.length = xs.length
  | [], [], _ => rfl
  | _ :: _, _ :: _, h => congrArg (· + 1) (All2.length h.2)
  | [], _ :: _, h => h.elim
  | _ :: _, [], h => h.elim
theorem All2.imp (k : ∀ v x, R v x → R' v x) : ∀ {vs : List V} {xs : List α}, All2 R vs xs → All2 R' vs xs
  | [], [], _ => trivial
  | _ :: _, _ :: _, h => ⟨k _ _ h.1, All2.imp k h.2⟩
  | [], _ :: _, h => h.elim
  | _ :: _, [], h => h.elim
theorem All2.append : ∀ {vs ws : List V} {xs ys : List α}, All2 R vs xs → All2 R ws ys → All2 R (vs ++ ws) (xs ++ ys)
  | [], _, [], _, _, h => h
  | _ :: _, _, _ :: _, _, h, k => ⟨h.1, All2.append h.2 k⟩
  | [], _, _ :: _, _, h, _ => h.elim
  | _ :: _, _, [], _, h, _ => h.elim
theorem All2.get : ∀ {vs : List V} {xs : List α} {i : Nat} {x : α}, All2 R vs xs → xs[i]? = some x → ∃ v, vs[i]? = some v ∧ R v x
  | [], [], _, _, _, e => by simp at e
  | v :: _, _ :: _, 0, _, h, e => ⟨v, rfl, by simp at e; subst e; exact h.1⟩
  | _ :: vs, _ :: xs, i + 1, x, h, e => by
    obtain ⟨w, a, b⟩ := All2.get (vs := vs) (xs := xs) (i := i) (x := x) h.2 (by simpa using e)
    exact ⟨w, by simpa using a, b⟩
  | [], _ :: _, _, _, h, _ => h.elim
  | _ :: _, [], _, _, h, _ => h.elim
theorem All2.set {v : V} {x : α} (r : R v x) : ∀ {vs : List V} {xs : List α} (i : Nat), All2 R vs xs → All2 R (vs.set i v) (xs.set i x)
  | [], [], _, h => h
  | _ :: _, _ :: _, 0, h => ⟨r, h.2⟩
  | _ :: _, _ :: _, i + 1, h => ⟨h.1, All2.set r i h.2⟩
  | [], _ :: _, _, h => h.elim
  | _ :: _, [], _, h => h.elim
theorem All2.reverse : ∀ {vs : List V} {xs : List α}, All2 R vs xs → All2 R vs.reverse xs.reverse
  | [], [], _ => trivial
  | v :: vs, x :: xs, h => by
    rw [List.reverse_cons, List.reverse_cons]
    exact All2.append (All2.reverse h.2) ⟨h.1, trivial⟩
  | [], _ :: _, h => h.elim
  | _ :: _, [], h => h.elim
theorem All2.dropLast : ∀ {vs : List V} {xs : List α}, All2 R vs xs → All2 R vs.dropLast xs.dropLast
  | [], [], _ => trivial
  | [_], [_], _ => trivial
  | v :: v2 :: vs, x :: x2 :: xs, h => ⟨h.1, All2.dropLast (vs := v2 :: vs) (xs := x2 :: xs) h.2⟩
  | [], _ :: _, h => h.elim
  | _ :: _, [], h => h.elim
  | [_], _ :: _ :: _, h => h.2.elim
  | _ :: _ :: _, [_], h => h.2.elim
theorem All2.take : ∀ {vs : List V} {xs : List α} (n : Nat), All2 R vs xs → All2 R (vs.take n) (xs.take n)
  | _, _, 0, _ => by simp [All2]
  | [], [], n + 1, _ => trivial
  | _ :: _, _ :: _, n + 1, h => ⟨h.1, All2.take n h.2⟩
  | [], _ :: _, _ + 1, h => h.elim
  | _ :: _, [], _ + 1, h => h.elim
theorem All2.drop : ∀ {vs : List V} {xs : List α} (n : Nat), All2 R vs xs → All2 R (vs.drop n) (xs.drop n)
  | _, _, 0, h => h
  | [], [], n + 1, _ => trivial
  | _ :: _, _ :: _, n + 1, h => All2.drop n h.2
  | [], _ :: _, _ + 1, h => h.elim
  | _ :: _, [], _ + 1, h => h.elim
theorem All2.nil_iff : ∀ {vs : List V} {xs : List α}, All2 R vs xs → vs.isEmpty = xs.isEmpty
  | [], [], _ => rfl
  | _ :: _, _ :: _, _ => rfl
  | [], _ :: _, h => h.elim
  | _ :: _, [], h => h.elim
theorem All2.getD {vs : List V} {xs : List α} {i : Nat} (h : All2 R vs xs) (hi : i < xs.length) : ∃ v, vs[i]? = some v ∧ R v xs[i] :=
  h.get (List.getElem?_eq_getElem hi)
theorem All2.last {vs : List V} {xs : List α} {x : α} (h : All2 R vs xs) (e : xs.getLast? = some x) : ∃ v, vs[vs.length - 1]? = some v ∧ R v x := by
  rw [List.getLast?_eq_getElem?] at e
  rw [h.length]
  exact h.get e
end

/-! ### what is owned, what is frozen -/
abbrev Ow := List (Addr × HO)
def Ow.dom (A : Ow) : List Addr := A.map (·.1)

structure Holds (F H : Hp) (A : Ow) : Prop where
  fz : Same F H
  ow : ∀ p ∈ A, F p.1 = none ∧ H p.1 = some p.2
  nd : (A.map (·.1)).Nodup

structure Ext (F H : Hp) (A : Ow) (F' H' : Hp) (A' : Ow) : Prop where
  fz : Same F F'
  keep : ∀ p o, H p = some o → p ∉ A.map (·.1) → H' p = some o
  nofz : ∀ p, F p = none → H p ≠ none → p ∉ A.map (·.1) → F' p = none
  holds : Holds F' H' A'
  new : ∀ p ∈ A'.map (·.1), p ∈ A.map (·.1) ∨ H p = none

section
variable {F H F' H' F2 H2 : Hp} {A A' A1 A2 B L R : Ow} {p a : Addr} {o o' : HO}
theorem Holds.dom_some (h : Holds F H A) (m : p ∈ A.map (·.1)) : ∃ o, H p = some o ∧ F p = none := by
  obtain ⟨q, hq, rfl⟩ := List.mem_map.mp m
  exact ⟨q.2, (h.ow q hq).2, (h.ow q hq).1⟩
theorem Holds.sub (h : Holds F H A) (s : A'.Sublist A) : Holds F H A' :=
  ⟨h.fz, fun q hq => h.ow q (s.subset hq), h.nd.sublist (s.map _)⟩
theorem Holds.perm (h : Holds F H A) (s : A.Perm A') : Holds F H A' :=
  ⟨h.fz, fun q hq => h.ow q (s.mem_iff.mpr hq), (s.map _).nodup_iff.mp h.nd⟩
theorem Ext.refl (h : Holds F H A) : Ext F H A F H A := ⟨Same.refl F, fun _ _ e _ => e, fun _ e _ _ => e, h, fun _ m => .inl m⟩
theorem Ext.trans (e1 : Ext F H A F' H' A') (e2 : Ext F' H' A' F2 H2 A2) : Ext F H A F2 H2 A2 := by
  have out : ∀ p o, H p = some o → p ∉ A.map (·.1) → p ∉ A'.map (·.1) := fun p o e n m => by
    rcases e1.new p m with q | q
    · exact n q
    · rw [e] at q; cases q
  refine ⟨e1.fz.trans e2.fz, fun p o e n => e2.keep p o (e1.keep p o e n) (out p o e n), fun p e e' n => ?_, e2.holds, fun p m => ?_⟩
  · obtain ⟨o, eo⟩ := Option.ne_none_iff_exists'.mp e'
    exact e2.nofz p (e1.nofz p e e' n) (by rw [e1.keep p o eo n]; simp) (out p o eo n)
  · rcases e2.new p m with q | q
    · exact e1.new p q
    · by_cases hm : p ∈ A.map (·.1)
      · exact .inl hm
      · right
        cases e : H p with
        | none => rfl
        | some o => rw [e1.keep p o e hm] at q; cases q
theorem Ext.sub (e : Ext F H A F' H' A') (s : A2.Sublist A') : Ext F H A F' H' A2 :=
  ⟨e.fz, e.keep, e.nofz, e.holds.sub s, fun p m => e.new p ((s.map _).subset m)⟩
theorem Ext.perm (e : Ext F H A F' H' A') (s : A'.Perm A2) : Ext F H A F' H' A2 :=
  ⟨e.fz, e.keep, e.nofz, e.holds.perm s, fun p m => e.new p ((s.map _).mem_iff.mpr m)⟩
theorem Ext.permL (e : Ext F H A F' H' A') (s : A.Perm A2) : Ext F H A2 F' H' A' :=
  ⟨e.fz, fun p o q n => e.keep p o q fun m => n ((s.map _).mem_iff.mp m), fun p q q' n => e.nofz p q q' fun m => n ((s.map _).mem_iff.mp m), e.holds, fun p m => (e.new p m).imp (s.map _).mem_iff.mp id⟩
/-- what the step does not touch stays -/
theorem Ext.frame (h : Holds F H (A ++ B)) (e : Ext F H A F' H' A') : Ext F H (A ++ B) F' H' (A' ++ B) := by
  have nd := h.nd
  rw [List.map_append, List.nodup_append] at nd
  obtain ⟨_, nB, dj⟩ := nd
  have outB : ∀ p ∈ B.map (·.1), p ∉ A.map (·.1) := fun p m m' => dj p m' p m rfl
  refine ⟨e.fz, fun p o q n => e.keep p o q fun m => n (by rw [List.map_append]; exact List.mem_append_left _ m), fun p q q' n => e.nofz p q q' fun m => n (by rw [List.map_append]; exact List.mem_append_left _ m), ⟨e.holds.fz, fun q m => ?_, ?_⟩, fun p m => ?_⟩
  · rcases List.mem_append.mp m with m | m
    · exact e.holds.ow q m
    · have k := h.ow q (List.mem_append_right _ m)
      have n := outB q.1 (List.mem_map_of_mem (f := (·.1)) m)
      exact ⟨e.nofz q.1 k.1 (by rw [k.2]; simp) n, e.keep q.1 q.2 k.2 n⟩
  · rw [List.map_append, List.nodup_append]
    refine ⟨e.holds.nd, nB, fun x hx y hy z => ?_⟩
    subst z
    rcases e.new x hx with q | q
    · exact outB x hy q
    · obtain ⟨r, hr, rfl⟩ := List.mem_map.mp hy
      rw [(h.ow r (List.mem_append_right _ hr)).2] at q
      cases q
  · rw [List.map_append] at m ⊢
    rcases List.mem_append.mp m with m | m
    · exact (e.new p m).imp (List.mem_append_left _) id
    · exact .inl (List.mem_append_right _ m)
theorem perm_mid (L A R : Ow) : (L ++ (A ++ R)).Perm (A ++ (L ++ R)) := by
  rw [← List.append_assoc, ← List.append_assoc]
  exact (List.perm_append_comm).append_right R
theorem Ext.frameMid (h : Holds F H (L ++ (A ++ R))) (e : Ext F H A F' H' A') : Ext F H (L ++ (A ++ R)) F' H' (L ++ (A' ++ R)) :=
  ((Ext.frame (h.perm (perm_mid L A R)) e).perm (perm_mid L A' R).symm).permL (perm_mid L A R).symm
/-- a new object, frozen -/
theorem Ext.newF (h : Holds F H A) (n : H p = none) : Ext F H A (upd F p o) (upd H p o) A := by
  have nF : F p = none := h.fz.free n
  refine ⟨fun b u e => by rw [upd_ne (ne_of_none e nF)]; exact e, fun b u e _ => by rw [upd_ne (ne_of_none e n)]; exact e, fun b e e' _ => ?_, ⟨fun b u e => ?_, fun q m => ?_, h.nd⟩, fun b m => .inl m⟩
  · rw [upd_ne (fun z => by subst z; exact e' n)]; exact e
  · unfold upd at e ⊢
    split
    · rename_i hb; rw [if_pos hb] at e; exact e
    · rename_i hb; rw [if_neg hb] at e; exact h.fz b u e
  · have k := h.ow q m
    have : q.1 ≠ p := ne_of_none k.2 n
    exact ⟨by rw [upd_ne this]; exact k.1, by rw [upd_ne this]; exact k.2⟩
/-- a new object, owned -/
theorem Ext.newO (h : Holds F H A) (n : H p = none) : Ext F H A F (upd H p o) ((p, o) :: A) := by
  have nF : F p = none := h.fz.free n
  refine ⟨Same.refl F, fun b u e _ => by rw [upd_ne (ne_of_none e n)]; exact e, fun b e _ _ => e, ⟨fun b u e => ?_, fun q m => ?_, ?_⟩, fun b m => ?_⟩
  · rw [upd_ne (ne_of_none e nF)]; exact h.fz b u e
  · rcases List.mem_cons.mp m with m | m
    · subst m; exact ⟨nF, upd_same⟩
    · have k := h.ow q m
      exact ⟨k.1, by rw [upd_ne (ne_of_none k.2 n)]; exact k.2⟩
  · rw [List.map_cons, List.nodup_cons]
    refine ⟨fun m => ?_, h.nd⟩
    obtain ⟨u, e, _⟩ := h.dom_some m
    rw [n] at e; cases e
  · rw [List.map_cons] at m
    rcases List.mem_cons.mp m with m | m
    · subst m; exact .inr n
    · exact .inl m
/-- an owned object is changed -/
theorem Ext.write (h : Holds F H ((a, o) :: A)) : Ext F H ((a, o) :: A) F (upd H a o') ((a, o') :: A) := by
  have k := h.ow (a, o) List.mem_cons_self
  have nd := h.nd
  rw [List.map_cons, List.nodup_cons] at nd
  refine ⟨Same.refl F, fun b u e n => by rw [upd_ne (fun z => n (by rw [z]; exact List.mem_cons_self))]; exact e, fun b e _ _ => e, ⟨fun b u e => ?_, fun q m => ?_, by rw [List.map_cons, List.nodup_cons]; exact nd⟩, fun b m => .inl m⟩
  · rw [upd_ne (ne_of_none e k.1)]; exact h.fz b u e
  · rcases List.mem_cons.mp m with m | m
    · subst m; exact ⟨k.1, upd_same⟩
    · have k2 := h.ow q (List.mem_cons_of_mem _ m)
      have : q.1 ≠ a := fun z => nd.1 (by rw [← z]; exact List.mem_map_of_mem (f := (·.1)) m)
      exact ⟨k2.1, by rw [upd_ne this]; exact k2.2⟩
/-- an owned object is frozen -/
theorem Ext.freeze (h : Holds F H ((a, o) :: A)) : Ext F H ((a, o) :: A) (upd F a o) H A := by
  have k := h.ow (a, o) List.mem_cons_self
  have nd := h.nd
  rw [List.map_cons, List.nodup_cons] at nd
  refine ⟨fun b u e => by rw [upd_ne (ne_of_none e k.1)]; exact e, fun b u e _ => e, fun b e _ n => ?_, ⟨fun b u e => ?_, fun q m => ?_, nd.2⟩, fun b m => .inl (List.mem_cons_of_mem _ m)⟩
  · rw [upd_ne (fun z => n (by rw [z]; exact List.mem_cons_self))]; exact e
  · unfold upd at e
    split at e
    · rename_i hb; subst hb; rw [← e]; exact k.2
    · exact h.fz b u e
  · have k2 := h.ow q (List.mem_cons_of_mem _ m)
    have : q.1 ≠ a := fun z => nd.1 (by rw [← z]; exact List.mem_map_of_mem (f := (·.1)) m)
    exact ⟨by rw [upd_ne this]; exact k2.1, k2.2⟩
end

/-! ### relations -/
structure Rl (α : Type) where
  P : Hp → V → α → Ow → Prop
  mono : ∀ {F F' v x A}, P F v x A → Same F F' → P F' v x A
structure Ty (α : Type) where
  R : Hp → V → α → Prop
  mono : ∀ {F F' v x}, R F v x → Same F F' → R F' v x
def fz {α : Type} (T : Ty α) : Rl α := ⟨fun F v x A => A = [] ∧ T.R F v x, fun h s => ⟨h.1, T.mono h.2 s⟩⟩
theorem Ty.all {α : Type} (T : Ty α) {F F' : Hp} {vs : List V} {xs : List α} (h : All2 (T.R F) vs xs) (s : Same F F') : All2 (T.R F') vs xs := All2.imp (fun _ _ r => T.mono r s) h
theorem Same.seqT {K : PySem.W.Frag} {H H' : Hp} {a : Addr} {xs : List V} (e : Same H H') (h : SqT K H a xs) : SqT K H' a xs := by
  rcases h with (h | ⟨o, h⟩) | h
  · exact .inl (.inl (e _ _ h))
  · exact .inl (.inr ⟨o, e _ _ h⟩)
  · exact .inr h

def tInt : Ty Int := ⟨fun _ v x => v = .int x, fun h _ => h⟩
def tBool : Ty Bool := ⟨fun _ v x => v = .bl x, fun h _ => h⟩
def tStr : Ty Str := ⟨fun _ v x => v = .str x, fun h _ => h⟩
def tNone : Ty Unit := ⟨fun _ v _ => v = .non, fun h _ => h⟩
def tOpt {α : Type} (T : Ty α) : Ty (Option α) := ⟨fun F v x => match x with
  | none => v = .non
  | some y => v ≠ .non ∧ T.R F v y, fun {F F' v x} h s => by
    cases x with
    | none => exact h
    | some y => exact ⟨h.1, T.mono h.2 s⟩⟩
def tLst {α : Type} (T : Ty α) : Ty (List α) := ⟨fun F v x => ∃ a vs, v = .ref a ∧ F a = some (.lst vs) ∧ All2 (T.R F) vs x, fun ⟨a, vs, e, q, r⟩ s => ⟨a, vs, e, s _ _ q, T.all r s⟩⟩
section
variable (K : PySem.W.Frag) {α β γ : Type}
/-- a list of the caller's, read alone (the script) -/
def tScr (T : Ty α) : Ty (List α) := ⟨fun F v x => ∃ a vs, v = .ref a ∧ SqL K F a vs ∧ All2 (T.R F) vs x, fun ⟨a, vs, e, q, r⟩ s => ⟨a, vs, e, s.seq q, T.all r s⟩⟩
end
def tTup {α : Type} (T : Ty α) : Ty (List α) := ⟨fun F v x => ∃ a vs, v = .ref a ∧ F a = some (.tup vs) ∧ All2 (T.R F) vs x, fun ⟨a, vs, e, q, r⟩ s => ⟨a, vs, e, s _ _ q, T.all r s⟩⟩
/-- .. that may be a constant of the module -/
def tKTup {α : Type} (K : PySem.W.Frag) (T : Ty α) : Ty (List α) := ⟨fun F v x => ∃ a vs, v = .ref a ∧ SqT K F a vs ∧ All2 (T.R F) vs x, fun ⟨a, vs, e, q, r⟩ s => ⟨a, vs, e, Same.seqT s q, T.all r s⟩⟩
def tP2 {α β : Type} (T : Ty α) (U : Ty β) : Ty (α × β) := ⟨fun F v x => ∃ a v1 v2, v = .ref a ∧ F a = some (.tup [v1, v2]) ∧ T.R F v1 x.1 ∧ U.R F v2 x.2, fun ⟨a, v1, v2, e, q, r1, r2⟩ s => ⟨a, v1, v2, e, s _ _ q, T.mono r1 s, U.mono r2 s⟩⟩
def tP3 {α β γ : Type} (T : Ty α) (U : Ty β) (W : Ty γ) : Ty (α × β × γ) := ⟨fun F v x => ∃ a v1 v2 v3, v = .ref a ∧ F a = some (.tup [v1, v2, v3]) ∧ T.R F v1 x.1 ∧ U.R F v2 x.2.1 ∧ W.R F v3 x.2.2,
  fun ⟨a, v1, v2, v3, e, q, r1, r2, r3⟩ s => ⟨a, v1, v2, v3, e, s _ _ q, T.mono r1 s, U.mono r2 s, W.mono r3 s⟩⟩
/-- an owned list -/
def oL {α : Type} (T : Ty α) : Rl (List α) := ⟨fun F v x A => ∃ a vs, v = .ref a ∧ A = [(a, .lst vs)] ∧ All2 (T.R F) vs x, fun ⟨a, vs, e, q, r⟩ s => ⟨a, vs, e, q, T.all r s⟩⟩
/-- .. at a known place -/
def oLa {α : Type} (a : Addr) (T : Ty α) : Rl (List α) := ⟨fun F v x A => ∃ vs, v = .ref a ∧ A = [(a, .lst vs)] ∧ All2 (T.R F) vs x, fun ⟨vs, e, q, r⟩ s => ⟨vs, e, q, T.all r s⟩⟩

/-! ### slots, contexts -/
structure Sl (α : Type) where
  P : Hp → Option V → α → Ow → Prop
  mono : ∀ {F F' o x A}, P F o x A → Same F F' → P F' o x A
def sR {α : Type} (R : Rl α) : Sl α := ⟨fun F o x A => ∃ v, o = some v ∧ R.P F v x A, fun ⟨v, e, r⟩ s => ⟨v, e, R.mono r s⟩⟩
def sAny {α : Type} : Sl α := ⟨fun _ _ _ _ => True, fun h _ => h⟩
structure Ctx (S : Type) where
  P : S → Hp → St → Ow → Prop
  mono : ∀ {s F F' σ A}, P s F σ A → Same F F' → P s F' σ A
def gnil : Ctx Unit := ⟨fun _ _ σ A => σ = [] ∧ A = [], fun h _ => h⟩
def gcons {α β : Type} (sl : Sl α) (G : Ctx β) : Ctx (α × β) := ⟨fun s F σ A => ∃ o σ' B R, σ = o :: σ' ∧ A = B ++ R ∧ sl.P F o s.1 B ∧ G.P s.2 F σ' R,
  fun ⟨o, σ', B, R, e1, e2, h1, h2⟩ s => ⟨o, σ', B, R, e1, e2, sl.mono h1 s, G.mono h2 s⟩⟩
/-- slot i: what it holds, and what a store makes of the context -/
structure At {S S' α β : Type} (G : Ctx S) (i : Nat) (sl : Sl α) (get : S → α) (sl' : Sl β) (G' : Ctx S') (put : S → β → S') : Prop where
  at_ : ∀ s F σ A, G.P s F σ A → ∃ o L B R, σ[i]? = some o ∧ A = L ++ (B ++ R) ∧ sl.P F o (get s) B ∧ ∀ F' o' y B', Same F F' → sl'.P F' o' y B' → G'.P (put s y) F' (σ.set i o') (L ++ (B' ++ R))
@[irreducible] def gZ {α S : Type} : α × S → α := fun s => s.1
@[irreducible] def gS {α γ S : Type} (get : S → α) : γ × S → α := fun s => get s.2
@[irreducible] def pZ {α β S : Type} : α × S → β → β × S := fun s y => (y, s.2)
@[irreducible] def pS {β γ S S' : Type} (put : S → β → S') : γ × S → β → γ × S' := fun s y => (s.1, put s.2 y)
theorem gZ_eq {α S : Type} (x : α) (s : S) : gZ (x, s) = x := by unfold gZ; rfl
theorem gS_eq {α γ S : Type} (get : S → α) (x : γ) (s : S) : gS get (x, s) = get s := by unfold gS; rfl
theorem pZ_eq {α β S : Type} (x : α) (s : S) (y : β) : pZ (x, s) y = (y, s) := by unfold pZ; rfl
theorem pS_eq {β γ S S' : Type} (put : S → β → S') (x : γ) (s : S) (y : β) : pS put (x, s) y = (x, put s y) := by unfold pS; rfl
theorem At.z {α β S : Type} {sl : Sl α} {sl' : Sl β} {G : Ctx S} : At (gcons sl G) 0 sl gZ sl' (gcons sl' G) pZ := by
  unfold gZ pZ
  exact ⟨fun s F σ A ⟨o, σ', B, R, e1, e2, h1, h2⟩ => ⟨o, [], B, R, by rw [e1]; rfl, e2, h1, fun F' o' y B' sm h' => ⟨o', σ', B', R, by rw [e1]; rfl, rfl, h', G.mono h2 sm⟩⟩⟩
theorem At.s {α β γ S S' : Type} {sl : Sl α} {sl' : Sl β} {t : Sl γ} {G : Ctx S} {G' : Ctx S'} {i : Nat} {get : S → α} {put : S → β → S'} (h : At G i sl get sl' G' put) :
    At (gcons t G) (i + 1) sl (gS get) sl' (gcons t G') (pS put) := by
  unfold gS pS
  refine ⟨fun s F σ A ⟨o, σ', B, R, e1, e2, h1, h2⟩ => ?_⟩
  obtain ⟨o1, L1, B1, R1, q1, q2, q3, q4⟩ := h.at_ s.2 F σ' R h2
  refine ⟨o1, B ++ L1, B1, R1, by rw [e1]; simpa using q1, by rw [e2, q2, List.append_assoc], q3, fun F' o' y B' sm h' => ?_⟩
  exact ⟨o, σ'.set i o', B, L1 ++ (B' ++ R1), by rw [e1]; rfl, by rw [List.append_assoc], t.mono h1 sm, q4 F' o' y B' sm h'⟩

/-- a slot that holds an owned list -/
class OL {α : Type} (T : outParam (Ty α)) (sl : Sl (List α)) : Prop where
  opn : ∀ {F o x A}, sl.P F o x A → ∃ a vs, o = some (.ref a) ∧ A = [(a, .lst vs)] ∧ All2 (T.R F) vs x ∧ ∀ F' vs' x', All2 (T.R F') vs' x' → sl.P F' o x' [(a, .lst vs')]
instance {α : Type} {T : Ty α} : OL T (sR (oL T)) := ⟨fun {F o x A} ⟨v, e, a, vs, e3, e4, r⟩ => ⟨a, vs, by rw [e, e3], e4, r, fun F' vs' x' h => ⟨v, e, a, vs', e3, rfl, h⟩⟩⟩
instance {α : Type} {T : Ty α} {a : Addr} : OL T (sR (oLa a T)) := ⟨fun {F o x A} ⟨v, e, vs, e3, e4, r⟩ => ⟨a, vs, by rw [e, e3], e4, r, fun F' vs' x' h => ⟨v, e, vs', e3, rfl, h⟩⟩⟩

/-- one context is moved into another (weakening, freezing); the heap stays -/
structure Mv {S S' : Type} (G : Ctx S) (G' : Ctx S') (m : S → S') : Prop where
  mv : ∀ s F H σ A, G.P s F σ A → Holds F H A → ∃ F' A', G'.P (m s) F' σ A' ∧ Ext F H A F' H A'
theorem Mv.refl {S : Type} {G : Ctx S} : Mv G G (fun s => s) := ⟨fun s F H σ A h k => ⟨F, A, h, Ext.refl k⟩⟩
theorem Mv.trans {S S' S2 : Type} {G : Ctx S} {G' : Ctx S'} {G2 : Ctx S2} {m : S → S'} {n : S' → S2} (a : Mv G G' m) (b : Mv G' G2 n) : Mv G G2 (fun s => n (m s)) := ⟨fun s F H σ A h k => by
  obtain ⟨F1, A1, h1, e1⟩ := a.mv s F H σ A h k
  obtain ⟨F2, A2, h2, e2⟩ := b.mv _ F1 H σ A1 h1 e1.holds
  exact ⟨F2, A2, h2, e1.trans e2⟩⟩
/-- one slot's move -/
structure SMv {α β : Type} (sl : Sl α) (sl' : Sl β) (m : α → β) : Prop where
  mv : ∀ x F H o A, sl.P F o x A → Holds F H A → ∃ F' A', sl'.P F' o (m x) A' ∧ Ext F H A F' H A'
theorem SMv.refl {α : Type} {sl : Sl α} : SMv sl sl (fun x => x) := ⟨fun x F H o A h k => ⟨F, A, h, Ext.refl k⟩⟩
theorem SMv.any {α β : Type} {sl : Sl α} {m : α → β} : SMv sl (sAny : Sl β) m := ⟨fun x F H o A h k => ⟨F, A, trivial, Ext.refl k⟩⟩
theorem SMv.drop {α β : Type} {sl : Sl α} {m : α → β} : SMv sl (sAny : Sl β) m := ⟨fun x F H o A h k => ⟨F, [], trivial, (Ext.refl k).sub (List.nil_sublist _)⟩⟩
theorem SMv.freeze {α : Type} {T : Ty α} : SMv (sR (oL T)) (sR (fz (tLst T))) (fun x => x) := ⟨fun x F H o A ⟨v, e, a, vs, ev, eA, r⟩ k => by
  subst eA
  have ex : Ext F H [(a, .lst vs)] (upd F a (.lst vs)) H [] := Ext.freeze k
  exact ⟨_, [], ⟨v, e, rfl, a, vs, ev, upd_same, T.all r ex.fz⟩, ex⟩⟩
theorem SMv.freezeA {α : Type} {T : Ty α} {a : Addr} : SMv (sR (oLa a T)) (sR (fz (tLst T))) (fun x => x) := ⟨fun x F H o A ⟨v, e, vs, ev, eA, r⟩ k => by
  subst eA
  have ex : Ext F H [(a, .lst vs)] (upd F a (.lst vs)) H [] := Ext.freeze k
  exact ⟨_, [], ⟨v, e, rfl, a, vs, ev, upd_same, T.all r ex.fz⟩, ex⟩⟩
/-- a move that leaves the mirror's state -/
abbrev MvI {S : Type} (G G' : Ctx S) : Prop := Mv G G' (fun s => s)
abbrev SMvI {α : Type} (sl sl' : Sl α) : Prop := SMv sl sl' (fun x => x)
theorem Mv.nil : Mv gnil gnil (fun s => s) := Mv.refl
theorem Mv.cons {α β S S' : Type} {sl : Sl α} {sl' : Sl β} {G : Ctx S} {G' : Ctx S'} {m : α → β} {n : S → S'} (a : SMv sl sl' m) (b : Mv G G' n) : Mv (gcons sl G) (gcons sl' G') (fun s => (m s.1, n s.2)) := ⟨fun s F H σ A ⟨o, σ', B, R, e1, e2, h1, h2⟩ k => by
  subst e2
  obtain ⟨F1, B1, q1, x1⟩ := a.mv s.1 F H o B h1 (k.sub (List.sublist_append_left _ _))
  have k1 := Ext.frame k x1
  obtain ⟨F2, R2, q2, x2⟩ := b.mv s.2 F1 H σ' R (G.mono h2 x1.fz) (k1.holds.sub (List.sublist_append_right _ _))
  have k2 : Ext F1 H (B1 ++ R) F2 H (B1 ++ R2) := by
    have hh : Holds F1 H (R ++ B1) := k1.holds.perm List.perm_append_comm
    exact ((Ext.frame hh x2).perm List.perm_append_comm).permL List.perm_append_comm
  exact ⟨F2, B1 ++ R2, ⟨o, σ', B1, R2, e1, rfl, sl'.mono q1 x2.fz, q2⟩, k1.trans k2⟩⟩
theorem MvI.refl {S : Type} {G : Ctx S} : MvI G G := Mv.refl
theorem MvI.cons {α S : Type} {sl sl' : Sl α} {G G' : Ctx S} (a : SMvI sl sl') (b : MvI G G') : MvI (gcons sl G) (gcons sl' G') := Mv.cons a b
theorem SMvI.refl {α : Type} {sl : Sl α} : SMvI sl sl := SMv.refl
theorem SMvI.hide {α : Type} {sl : Sl α} : SMvI sl (sAny : Sl α) := SMv.any
theorem SMvI.freeze {α : Type} {T : Ty α} : SMvI (sR (oL T)) (sR (fz (tLst T))) := SMv.freeze
theorem SMvI.freezeA {α : Type} {T : Ty α} {a : Addr} : SMvI (sR (oLa a T)) (sR (fz (tLst T))) := SMv.freezeA
end TC
namespace TC
open PySem PySem.Spec PyProof.Rows L2

/-- how an exception lies: its mirror, its class, its own dict, the heap -/
abbrev XRel := Ex → Value → Option Addr → Hp → Prop

section
variable (XR : XRel) (W : WX)
/-- what an expression's mirror asks -/
def WPE {S α : Type} (p : Bool) (σ : St) (R : Rl α) (G : Ctx S) (F H : Hp) (A : Ow) (s : S) (Q : VK) : Res (α × S) → Prop
  | .ok (x, s') => ∀ v F' H' B A', R.P F' v x B → G.P s' F' σ A' → Ext F H A F' H' (B ++ A') → (p = true → A' = A ∧ s' = s) → Q v H'
  | .er ex => ∀ cls oe F' H' A', XR ex cls oe H' → Ext F H A F' H' A' → W cls oe σ H'
  | .bad => False
def WPT {S : Type} (p : Bool) (σ : St) (G : Ctx S) (F H : Hp) (A : Ow) (s : S) (Q : Bool → Hp → Prop) : Res (Bool × S) → Prop
  | .ok (x, s') => ∀ F' H' A', G.P s' F' σ A' → Ext F H A F' H' A' → (p = true → A' = A ∧ s' = s) → Q x H'
  | .er ex => ∀ cls oe F' H' A', XR ex cls oe H' → Ext F H A F' H' A' → W cls oe σ H'
  | .bad => False
def WPS {S' L ρ : Type} (R : Rl ρ) (Gb : Ctx L) (G' : Ctx S') (F H : Hp) (A : Ow) (D : Ends) : Out S' L ρ → Prop
  | .nx s' => ∀ F' σ' H' A', G'.P s' F' σ' A' → Ext F H A F' H' A' → D.nx σ' H'
  | .rt r => ∀ v F' H' A', R.P F' v r A' → Ext F H A F' H' A' → D.rt v H'
  | .bk l => ∀ F' σ' H' A', Gb.P l F' σ' A' → Ext F H A F' H' A' → D.bk σ' H'
  | .ct l => ∀ F' σ' H' A', Gb.P l F' σ' A' → Ext F H A F' H' A' → D.ct σ' H'
  | .er ex => ∀ cls oe F' H' σ' A', XR ex cls oe H' → Ext F H A F' H' A' → W cls oe σ' H'
  | .bad => False
variable (X : Cx)
/-- an expression has a mirror -/
def EM {S α : Type} (p : Bool) (G : Ctx S) (e : Expr) (R : Rl α) (f : S → Res (α × S)) : Prop :=
  ∃ t, PE X e t ∧ ∀ s F σ H A Q, G.P s F σ A → Holds F H A → WPE XR W p σ R G F H A s Q (f s) → t σ H Q
def TM {S : Type} (p : Bool) (G : Ctx S) (e : Expr) (f : S → Res (Bool × S)) : Prop :=
  ∃ t, PT X e t ∧ ∀ s F σ H A Q, G.P s F σ A → Holds F H A → WPT XR W p σ G F H A s Q (f s) → t σ H Q
/-- and, or -/
def BM {S : Type} (p : Bool) (G : Ctx S) (e : Expr) (f : S → Res (Bool × S)) : Prop :=
  ∃ t, PW X e t ∧ ∀ s F σ H A Q, G.P s F σ A → Holds F H A → WPT XR W p σ G F H A s Q (f s) → t σ H Q
def SM {S S' L ρ : Type} (R : Rl ρ) (Gb : Ctx L) (G : Ctx S) (st : Stmt) (G' : Ctx S') (f : S → Out S' L ρ) : Prop :=
  ∃ t, PS X st t ∧ ∀ s F σ H A D, G.P s F σ A → Holds F H A → WPS XR W R Gb G' F H A D (f s) → t D σ H
def SS {S S' L ρ : Type} (R : Rl ρ) (Gb : Ctx L) (G : Ctx S) (st : List Stmt) (G' : Ctx S') (f : S → Out S' L ρ) : Prop :=
  ∃ t, PSs X st t ∧ ∀ s F σ H A D, G.P s F σ A → Holds F H A → WPS XR W R Gb G' F H A D (f s) → t D σ H
end

/-- relations of argument lists -/
structure RA (P : Type) where
  P : Hp → List V → P → Ow → Prop
  mono : ∀ {F F' vs x A}, P F vs x A → Same F F' → P F' vs x A
def anil : RA Unit := ⟨fun _ vs _ A => vs = [] ∧ A = [], fun h _ => h⟩
def acons {α β : Type} (R : Rl α) (Z : RA β) : RA (α × β) := ⟨fun F vs x A => ∃ v r B C, vs = v :: r ∧ A = B ++ C ∧ R.P F v x.1 B ∧ Z.P F r x.2 C,
  fun ⟨v, r, B, C, e1, e2, h1, h2⟩ s => ⟨v, r, B, C, e1, e2, R.mono h1 s, Z.mono h2 s⟩⟩
/-- all of one kind, frozen -/
def aall {α : Type} (T : Ty α) : RA (List α) := ⟨fun F vs x A => A = [] ∧ All2 (T.R F) vs x, fun h s => ⟨h.1, T.all h.2 s⟩⟩
section
variable (XR : XRel) (W : WX)
def WPA {S P : Type} (p : Bool) (σ : St) (Z : RA P) (G : Ctx S) (F H : Hp) (A : Ow) (s : S) (Q : List V → Hp → Prop) : Res (P × S) → Prop
  | .ok (x, s') => ∀ vs F' H' B A', Z.P F' vs x B → G.P s' F' σ A' → Ext F H A F' H' (B ++ A') → (p = true → A' = A ∧ s' = s) → Q vs H'
  | .er ex => ∀ cls oe F' H' A', XR ex cls oe H' → Ext F H A F' H' A' → W cls oe σ H'
  | .bad => False
variable (X : Cx)
def AM {S P : Type} (p : Bool) (G : Ctx S) (es : List Expr) (Z : RA P) (f : S → Res (P × S)) : Prop :=
  ∃ t, PA X es t ∧ ∀ s F σ H A Q, G.P s F σ A → Holds F H A → WPA XR W p σ Z G F H A s Q (f s) → t σ H Q
end

section
variable {XR : XRel} {W : WX} {X : Cx} {S S' : Type} {G : Ctx S} {G' : Ctx S'} {α β γ : Type} {e a b : Expr} {es : List Expr} {pos : Pos} {p p1 p2 : Bool}

/-! ### the bind lemmas -/
theorem WPE.bind {R1 : Rl α} {R : Rl β} {p : Bool} {σ : St} {F H : Hp} {A : Ow} {s : S} {Q Q1 : VK} {r : Res (α × S)} {k : α × S → Res (β × S)} (h : WPE XR W p σ R G F H A s Q (r.bind k))
    (hk : ∀ x s' v F' H' B A', R1.P F' v x B → G.P s' F' σ A' → Ext F H A F' H' (B ++ A') → (p1 = true → A' = A ∧ s' = s) → WPE XR W p σ R G F H A s Q (k (x, s')) → Q1 v H') : WPE XR W p1 σ R1 G F H A s Q1 r := by
  cases r with
  | bad => exact h
  | er ex => exact h
  | ok xs =>
    obtain ⟨x, s'⟩ := xs
    exact fun v F' H' B A' h1 h2 h3 h4 => hk x s' v F' H' B A' h1 h2 h3 h4 h
theorem WPT.bindE {R : Rl β} {p : Bool} {σ : St} {F H : Hp} {A : Ow} {s : S} {Q : VK} {Q1 : Bool → Hp → Prop} {r : Res (Bool × S)} {k : Bool × S → Res (β × S)} (h : WPE XR W p σ R G F H A s Q (r.bind k))
    (hk : ∀ x s' F' H' A', G.P s' F' σ A' → Ext F H A F' H' A' → (p1 = true → A' = A ∧ s' = s) → WPE XR W p σ R G F H A s Q (k (x, s')) → Q1 x H') : WPT XR W p1 σ G F H A s Q1 r := by
  cases r with
  | bad => exact h
  | er ex => exact h
  | ok xs =>
    obtain ⟨x, s'⟩ := xs
    exact fun F' H' A' h2 h3 h4 => hk x s' F' H' A' h2 h3 h4 h
theorem WPE.bindT {R1 : Rl α} {p : Bool} {σ : St} {F H : Hp} {A : Ow} {s : S} {Q : Bool → Hp → Prop} {Q1 : VK} {r : Res (α × S)} {k : α × S → Res (Bool × S)} (h : WPT XR W p σ G F H A s Q (r.bind k))
    (hk : ∀ x s' v F' H' B A', R1.P F' v x B → G.P s' F' σ A' → Ext F H A F' H' (B ++ A') → (p1 = true → A' = A ∧ s' = s) → WPT XR W p σ G F H A s Q (k (x, s')) → Q1 v H') : WPE XR W p1 σ R1 G F H A s Q1 r := by
  cases r with
  | bad => exact h
  | er ex => exact h
  | ok xs =>
    obtain ⟨x, s'⟩ := xs
    exact fun v F' H' B A' h1 h2 h3 h4 => hk x s' v F' H' B A' h1 h2 h3 h4 h
theorem WPT.bind {p : Bool} {σ : St} {F H : Hp} {A : Ow} {s : S} {Q Q1 : Bool → Hp → Prop} {r : Res (Bool × S)} {k : Bool × S → Res (Bool × S)} (h : WPT XR W p σ G F H A s Q (r.bind k))
    (hk : ∀ x s' F' H' A', G.P s' F' σ A' → Ext F H A F' H' A' → (p1 = true → A' = A ∧ s' = s) → WPT XR W p σ G F H A s Q (k (x, s')) → Q1 x H') : WPT XR W p1 σ G F H A s Q1 r := by
  cases r with
  | bad => exact h
  | er ex => exact h
  | ok xs =>
    obtain ⟨x, s'⟩ := xs
    exact fun F' H' A' h2 h3 h4 => hk x s' F' H' A' h2 h3 h4 h
theorem WPA.bindE {P : Type} {Z : RA P} {R : Rl β} {p : Bool} {σ : St} {F H : Hp} {A : Ow} {s : S} {Q : VK} {Q1 : List V → Hp → Prop} {r : Res (P × S)} {k : P × S → Res (β × S)} (h : WPE XR W p σ R G F H A s Q (r.bind k))
    (hk : ∀ x s' v F' H' B A', Z.P F' v x B → G.P s' F' σ A' → Ext F H A F' H' (B ++ A') → (p1 = true → A' = A ∧ s' = s) → WPE XR W p σ R G F H A s Q (k (x, s')) → Q1 v H') : WPA XR W p1 σ Z G F H A s Q1 r := by
  cases r with
  | bad => exact h
  | er ex => exact h
  | ok xs =>
    obtain ⟨x, s'⟩ := xs
    exact fun v F' H' B A' h1 h2 h3 h4 => hk x s' v F' H' B A' h1 h2 h3 h4 h
theorem WPE.bindA {P : Type} {Z : RA P} {R1 : Rl α} {p : Bool} {σ : St} {F H : Hp} {A : Ow} {s : S} {Q : List V → Hp → Prop} {Q1 : VK} {r : Res (α × S)} {k : α × S → Res (P × S)} (h : WPA XR W p σ Z G F H A s Q (r.bind k))
    (hk : ∀ x s' v F' H' B A', R1.P F' v x B → G.P s' F' σ A' → Ext F H A F' H' (B ++ A') → (p1 = true → A' = A ∧ s' = s) → WPA XR W p σ Z G F H A s Q (k (x, s')) → Q1 v H') : WPE XR W p1 σ R1 G F H A s Q1 r := by
  cases r with
  | bad => exact h
  | er ex => exact h
  | ok xs =>
    obtain ⟨x, s'⟩ := xs
    exact fun v F' H' B A' h1 h2 h3 h4 => hk x s' v F' H' B A' h1 h2 h3 h4 h
theorem WPA.bind {P P' : Type} {Z1 : RA P} {Z : RA P'} {p : Bool} {σ : St} {F H : Hp} {A : Ow} {s : S} {Q Q1 : List V → Hp → Prop} {r : Res (P × S)} {k : P × S → Res (P' × S)} (h : WPA XR W p σ Z G F H A s Q (r.bind k))
    (hk : ∀ x s' v F' H' B A', Z1.P F' v x B → G.P s' F' σ A' → Ext F H A F' H' (B ++ A') → (p1 = true → A' = A ∧ s' = s) → WPA XR W p σ Z G F H A s Q (k (x, s')) → Q1 v H') : WPA XR W p1 σ Z1 G F H A s Q1 r := by
  cases r with
  | bad => exact h
  | er ex => exact h
  | ok xs =>
    obtain ⟨x, s'⟩ := xs
    exact fun v F' H' B A' h1 h2 h3 h4 => hk x s' v F' H' B A' h1 h2 h3 h4 h
theorem WPE.bindS {L ρ S2 : Type} {R : Rl ρ} {Gb : Ctx L} {G2 : Ctx S2} {R1 : Rl α} {σ : St} {F H : Hp} {A : Ow} {s : S} {D : Ends} {Q1 : VK} {r : Res (α × S)} {k : α × S → Out S2 L ρ} (h : WPS XR W R Gb G2 F H A D (r.out k))
    (hk : ∀ x s' v F' H' B A', R1.P F' v x B → G.P s' F' σ A' → Ext F H A F' H' (B ++ A') → WPS XR W R Gb G2 F H A D (k (x, s')) → Q1 v H') : WPE XR W p1 σ R1 G F H A s Q1 r := by
  cases r with
  | bad => exact h
  | er ex => exact fun cls oe F' H' A' h1 h2 => h cls oe F' H' σ A' h1 h2
  | ok xs =>
    obtain ⟨x, s'⟩ := xs
    exact fun v F' H' B A' h1 h2 h3 h4 => hk x s' v F' H' B A' h1 h2 h3 h
theorem WPT.bindS {L ρ S2 : Type} {R : Rl ρ} {Gb : Ctx L} {G2 : Ctx S2} {σ : St} {F H : Hp} {A : Ow} {s : S} {D : Ends} {Q1 : Bool → Hp → Prop} {r : Res (Bool × S)} {k : Bool × S → Out S2 L ρ} (h : WPS XR W R Gb G2 F H A D (r.out k))
    (hk : ∀ x s' F' H' A', G.P s' F' σ A' → Ext F H A F' H' A' → WPS XR W R Gb G2 F H A D (k (x, s')) → Q1 x H') : WPT XR W p1 σ G F H A s Q1 r := by
  cases r with
  | bad => exact h
  | er ex => exact fun cls oe F' H' A' h1 h2 => h cls oe F' H' σ A' h1 h2
  | ok xs =>
    obtain ⟨x, s'⟩ := xs
    exact fun F' H' A' h2 h3 h4 => hk x s' F' H' A' h2 h3 h

/-- a later starting point -/
theorem WPE.later {R : Rl α} {σ : St} {F H F1 H1 : Hp} {A A1 B C : Ow} {s s1 : S} {Q : VK} {r : Res (α × S)} (h : WPE XR W p σ R G F H A s Q r) (e : Ext F H A F1 H1 (B ++ A1)) (hp : p = true → A1 = A ∧ s1 = s)  :
    WPE XR W p σ ⟨fun F' v x C => R.P F' v x C, R.mono⟩ G F1 H1 A1 s1 Q r := by
  cases r with
  | bad => exact h
  | er ex => exact fun cls oe F' H' A' h1 h2 => h cls oe F' H' A' h1 ((e.sub (List.sublist_append_right B A1)).trans h2)
  | ok xs =>
    obtain ⟨x, s'⟩ := xs
    exact fun v F' H' B' A' h1 h2 h3 h4 => h v F' H' B' A' h1 h2 ((e.sub (List.sublist_append_right B A1)).trans h3) (fun q => ⟨(h4 q).1.trans (hp q).1, (h4 q).2.trans (hp q).2⟩)

/-! ### names and constants -/
theorem em_var {i : Nat} {x : Str} {T : Ty α} {get : S → α} {put : S → α → S} (hN : X.N[i]? = some x) (hv : Vis X.env.scope x) (at_ : At G i (sR (fz T)) get (sR (fz T)) G put)
    (hd : (x == ("__debug__" : Str)) = false := by decide) (hcd : (x == ("__classdict__" : Str)) = false := by decide) : EM XR W X true G (.Name x pos) (fz T) (fun s => .ok (get s, s)) := by
  refine ⟨_, pe_var hN hv hd hcd, fun s F σ H A Q g k h => ?_⟩
  obtain ⟨o, L, B, R, e1, e2, ⟨v, rfl, e3, r⟩, _⟩ := at_.at_ s F σ A g
  exact ⟨v, e1, h v F H [] A ⟨rfl, r⟩ g (Ext.refl k) fun _ => ⟨rfl, rfl⟩⟩
theorem em_int {i : Int} {j : Nat} : EM XR W X true G (.Constant (.int i) j pos) (fz tInt) (fun s => .ok (i, s)) := ⟨_, pe_int, fun s F σ H A Q g k h => h _ F H [] A ⟨rfl, rfl⟩ g (Ext.refl k) fun _ => ⟨rfl, rfl⟩⟩
theorem em_bool {i : Bool} {j : Nat} : EM XR W X true G (.Constant (.bool i) j pos) (fz tBool) (fun s => .ok (i, s)) := ⟨_, pe_bl, fun s F σ H A Q g k h => h _ F H [] A ⟨rfl, rfl⟩ g (Ext.refl k) fun _ => ⟨rfl, rfl⟩⟩
theorem em_str {i : Str} {j : Nat} : EM XR W X true G (.Constant (.str i) j pos) (fz tStr) (fun s => .ok (i, s)) := ⟨_, pe_str, fun s F σ H A Q g k h => h _ F H [] A ⟨rfl, rfl⟩ g (Ext.refl k) fun _ => ⟨rfl, rfl⟩⟩
theorem em_none {j : Nat} {T : Ty α} : EM XR W X true G (.Constant .none j pos) (fz (tOpt T)) (fun s => .ok (none, s)) := ⟨_, pe_non, fun s F σ H A Q g k h => h _ F H [] A ⟨rfl, rfl⟩ g (Ext.refl k) fun _ => ⟨rfl, rfl⟩⟩
/-- a constant of the module -/
theorem em_glob {x : Str} {v : V} {u : Value} {T : Ty α} {c : α} (hg : Gl X x) (hm : X.mg x = some u) (r : RelV v u) (hr : ∀ F, T.R F v c) (hd : (x == ("__debug__" : Str)) = false := by decide) : EM XR W X true G (.Name x pos) (fz T) (fun s => .ok (c, s)) :=
  ⟨_, pe_glob hg hm r hd, fun s F σ H A Q g k h => h _ F H [] A ⟨rfl, hr F⟩ g (Ext.refl k) fun _ => ⟨rfl, rfl⟩⟩
/-- None ahead: an optional value that is there -/
theorem em_some {T : Ty α} {f : S → Res (α × S)} (ne : ∀ F v x, T.R F v x → v ≠ .non) (h : EM XR W X p G e (fz T) f) : EM XR W X p G e (fz (tOpt T)) (fun s => (f s).bind fun r => .ok (some r.1, r.2)) := by
  obtain ⟨t, ht, hh⟩ := h
  refine ⟨t, ht, fun s F σ H A Q g k w => hh s F σ H A Q g k (WPE.bind w fun x s' v F' H' B A' h1 h2 h3 h4 w => w v F' H' B A' ⟨h1.1, ne _ _ _ h1.2, h1.2⟩ h2 h3 h4)⟩
/-- a change of the view of a value -/
theorem em_cast {R : Rl α} {R' : Rl β} {f : S → Res (α × S)} (c : α → β) (im : ∀ F v x A, R.P F v x A → R'.P F v (c x) A) (h : EM XR W X p G e R f) : EM XR W X p G e R' (fun s => (f s).bind fun r => .ok (c r.1, r.2)) := by
  obtain ⟨t, ht, hh⟩ := h
  refine ⟨t, ht, fun s F σ H A Q g k w => hh s F σ H A Q g k (WPE.bind w fun x s' v F' H' B A' h1 h2 h3 h4 w => w v F' H' B A' (im _ _ _ _ h1) h2 h3 h4)⟩
/-- a list just made is frozen -/
theorem em_freeze {T : Ty α} {f : S → Res (List α × S)} (h : EM XR W X p G e (oL T) f) : EM XR W X p G e (fz (tLst T)) f := by
  obtain ⟨t, ht, hh⟩ := h
  refine ⟨t, ht, fun s F σ H A Q g k w => hh s F σ H A Q g k ?_⟩
  cases q : f s with
  | bad => rw [q] at w; exact w
  | er ex => rw [q] at w; exact w
  | ok xs =>
    obtain ⟨x, s'⟩ := xs
    rw [q] at w
    intro v F' H' B A' h1 h2 h3 h4
    obtain ⟨a, vs, rfl, rfl, r⟩ := h1
    have ex : Ext F' H' ((a, .lst vs) :: A') (upd F' a (.lst vs)) H' A' := Ext.freeze h3.holds
    exact w _ _ H' [] A' ⟨rfl, a, vs, rfl, upd_same, T.all r ex.fz⟩ (G.mono h2 ex.fz) (h3.trans ex) h4

/-! ### operators -/
/-- two frozen operands, a result that is laid down by itself -/
def Op2 (r : R2) (R1 : Ty α) (R2 : Ty β) (g : α → β → Res γ) (R : Rl γ) : Prop :=
  ∀ F H v u x y (Q : VK), R1.R F v x → R2.R F u y → Same F H → (∀ z, g x y = .ok z → ∀ w F' H' B, R.P F' w z B → Ext F H [] F' H' B → Q w H') → (g x y ≠ .bad) → (∀ ex, g x y ≠ .er ex) → r v u H Q
theorem holds_nil {F H : Hp} (s : Same F H) : Holds F H [] := ⟨s, fun _ m => absurd m (by simp), by simp⟩
theorem ext_nil {F H F' H' : Hp} {A B : Ow} (h : Holds F H A) (e : Ext F H [] F' H' B) : Ext F H A F' H' (B ++ A) := Ext.frame (A := []) (B := A) h e
theorem op2_run {r : R2} {T1 : Ty α} {T2 : Ty β} {g : α → β → Res γ} {R : Rl γ} (ho : Op2 r T1 T2 g R) {σ : St} {F H F1 H1 : Hp} {A A1 : Ow} {s s1 : S} {x : α} {y : β} {v u : V} {Q : VK} (e1 : Ext F H A F1 H1 A1) (g1 : G.P s1 F1 σ A1)
    (hp : p = true → A1 = A ∧ s1 = s) (rx : T1.R F1 v x) (ry : T2.R F1 u y) (w : WPE XR W p σ R G F H A s Q ((g x y).bind fun z => .ok (z, s1))) (ne : ∀ ex, g x y ≠ .er ex := by intro ex h; cases h) : r v u H1 Q := by
  refine ho F1 H1 v u x y Q rx ry e1.holds.fz (fun z ez w' F' H' B hr ex => ?_) (fun q => ?_) ne
  · rw [ez] at w
    have ex' := ext_nil e1.holds ex
    exact w w' F' H' B A1 hr (G.mono g1 ex.fz) (e1.trans ex') hp
  · rw [q] at w; exact w
theorem em_bin {op : Operator} {r : R2} {T1 : Ty α} {T2 : Ty β} {g : α → β → Res γ} {R : Rl γ} {fa : S → Res (α × S)} {fb : S → Res (β × S)} (hop : OpR X (binaryOp op) r) (ho : Op2 r T1 T2 g R) (ne : ∀ x y ex, g x y ≠ .er ex)
    (ha : EM XR W X p1 G a (fz T1) fa) (hb : EM XR W X p2 G b (fz T2) fb) :
    EM XR W X (p1 && p2) G (.BinOp a op b pos) R (fun s => (fa s).bind fun r1 => (fb r1.2).bind fun r2 => (g r1.1 r2.1).bind fun z => .ok (z, r2.2)) := by
  obtain ⟨ta, hta, ha⟩ := ha
  obtain ⟨tb, htb, hb⟩ := hb
  refine ⟨_, pe_op hop hta htb, fun s F σ H A Q g k w => ha s F σ H A _ g k (WPE.bind w fun x s1 v F1 H1 B A1 ⟨rB, r1⟩ g1 e1 q1 w => ?_)⟩
  subst rB
  refine hb s1 F1 σ H1 A1 _ g1 e1.holds ?_
  cases q : fb s1 with
  | bad => rw [q] at w; exact w
  | er ex => rw [q] at w; exact fun cls oe F' H' A' h1 h2 => w cls oe F' H' A' h1 (e1.trans h2)
  | ok ys =>
    obtain ⟨y, s2⟩ := ys
    rw [q] at w
    rintro u F2 H2 B A2 ⟨rB, r2⟩ g2 e2 q2
    subst rB
    exact op2_run ho (e1.trans e2) g2 (fun hp => by
      simp only [Bool.and_eq_true] at hp
      exact ⟨(q2 hp.2).1.trans (q1 hp.1).1, (q2 hp.2).2.trans (q1 hp.1).2⟩) (T1.mono r1 e2.fz) r2 w (ne x y)
theorem em_cmp {op : CmpOp} {r : R2} {T1 : Ty α} {T2 : Ty β} {g : α → β → Res γ} {R : Rl γ} {fa : S → Res (α × S)} {fb : S → Res (β × S)} (hop : OpR X (compareOp op) r) (ho : Op2 r T1 T2 g R) (ne : ∀ x y ex, g x y ≠ .er ex) (hm : behindInMarks op b = false)
    (ha : EM XR W X p1 G a (fz T1) fa) (hb : EM XR W X p2 G b (fz T2) fb) :
    EM XR W X (p1 && p2) G (.Compare a [op] [b] pos) R (fun s => (fa s).bind fun r1 => (fb r1.2).bind fun r2 => (g r1.1 r2.1).bind fun z => .ok (z, r2.2)) := by
  obtain ⟨ta, hta, ha⟩ := ha
  obtain ⟨tb, htb, hb⟩ := hb
  refine ⟨_, pe_cmpR hop hta htb hm, fun s F σ H A Q g k w => ha s F σ H A _ g k (WPE.bind w fun x s1 v F1 H1 B A1 ⟨rB, r1⟩ g1 e1 q1 w => ?_)⟩
  subst rB
  refine hb s1 F1 σ H1 A1 _ g1 e1.holds ?_
  cases q : fb s1 with
  | bad => rw [q] at w; exact w
  | er ex => rw [q] at w; exact fun cls oe F' H' A' h1 h2 => w cls oe F' H' A' h1 (e1.trans h2)
  | ok ys =>
    obtain ⟨y, s2⟩ := ys
    rw [q] at w
    rintro u F2 H2 B A2 ⟨rB, r2⟩ g2 e2 q2
    subst rB
    exact op2_run ho (e1.trans e2) g2 (fun hp => by
      simp only [Bool.and_eq_true] at hp
      exact ⟨(q2 hp.2).1.trans (q1 hp.1).1, (q2 hp.2).2.trans (q1 hp.1).2⟩) (T1.mono r1 e2.fz) r2 w (ne x y)
/-- a one-place operation by its reading -/
def Op1 (r : V → Hp → VK → Prop) (T : Ty α) (g : α → Res γ) (R : Rl γ) : Prop :=
  ∀ F H v x (Q : VK), T.R F v x → Same F H → (∀ z, g x = .ok z → ∀ w F' H' B, R.P F' w z B → Ext F H [] F' H' B → Q w H') → (g x ≠ .bad) → (∀ ex, g x ≠ .er ex) → r v H Q
theorem op1_run {r : V → Hp → VK → Prop} {T : Ty α} {g : α → Res γ} {R : Rl γ} (ho : Op1 r T g R) {σ : St} {F H F1 H1 : Hp} {A A1 : Ow} {s s1 : S} {x : α} {v : V} {Q : VK} (e1 : Ext F H A F1 H1 A1) (g1 : G.P s1 F1 σ A1)
    (hp : p = true → A1 = A ∧ s1 = s) (rx : T.R F1 v x) (w : WPE XR W p σ R G F H A s Q ((g x).bind fun z => .ok (z, s1))) (ne : ∀ ex, g x ≠ .er ex) : r v H1 Q := by
  refine ho F1 H1 v x Q rx e1.holds.fz (fun z ez w' F' H' B hr ex => ?_) (fun q => ?_) ne
  · rw [ez] at w
    exact w w' F' H' B A1 hr (G.mono g1 ex.fz) (e1.trans (ext_nil e1.holds ex)) hp
  · rw [q] at w; exact w
theorem em_un {op : UnaryOp} {r : V → Hp → VK → Prop} {T : Ty α} {g : α → Res γ} {R : Rl γ} {fa : S → Res (α × S)} (hop : UnR X (unaryOp op) r) (ho : Op1 r T g R) (ne : ∀ x ex, g x ≠ .er ex) (ha : EM XR W X p G a (fz T) fa) :
    EM XR W X p G (.UnaryOp op a pos) R (fun s => (fa s).bind fun r1 => (g r1.1).bind fun z => .ok (z, r1.2)) := by
  obtain ⟨ta, hta, ha⟩ := ha
  refine ⟨_, pe_un hop hta, fun s F σ H A Q g k w => ha s F σ H A _ g k (WPE.bind w fun x s1 v F1 H1 B A1 ⟨rB, r1⟩ g1 e1 q1 w => ?_)⟩
  subst rB
  exact op1_run ho e1 g1 q1 r1 w (ne x)
/-- f(e), a built-in of one frozen argument -/
theorem em_callB {id : String} {x : Str} {pp : Pos} {r : List V → Hp → VK → Prop} {T : Ty α} {g : α → Res γ} {R : Rl γ} {fa : S → Res (α × S)} (hc : CallR X (.builtin id) r) (hg : Gl X x) (hm : X.mg x = none) (hv : bootBuiltins x = some (.builtin id))
    (ho : Op1 (fun v H Q => r [v] H Q) T g R) (ne : ∀ x ex, g x ≠ .er ex) (ha : EM XR W X p G a (fz T) fa) (hs : starEach [a] X.env = [(false, eval a X.env)] := by rfl) (hn : x ≠ "__name__" := by decide) (hdb : (x == ("__debug__" : Str)) = false := by decide) :
    EM XR W X p G (.Call (.Name x pp) [a] [] pos) R (fun s => (fa s).bind fun r1 => (g r1.1).bind fun z => .ok (z, r1.2)) := by
  obtain ⟨ta, hta, ha⟩ := ha
  refine ⟨_, pe_callB hc hg hm hv (pa_cons hta pa_nil hs) hn hdb hs rfl, fun s F σ H A Q g k w => ha s F σ H A _ g k (WPE.bind w fun x s1 v F1 H1 B A1 ⟨rB, r1⟩ g1 e1 q1 w => ?_)⟩
  subst rB
  exact op1_run ho e1 g1 q1 r1 w (ne x)
theorem em_callTy {id : String} {x : Str} {pp : Pos} {r : List V → Hp → VK → Prop} {T : Ty α} {g : α → Res γ} {R : Rl γ} {fa : S → Res (α × S)} (hc : CallR X (.type id) r) (hg : Gl X x) (hm : X.mg x = none) (hv : bootBuiltins x = some (.type id))
    (ho : Op1 (fun v H Q => r [v] H Q) T g R) (ne : ∀ x ex, g x ≠ .er ex) (ha : EM XR W X p G a (fz T) fa) (hs : starEach [a] X.env = [(false, eval a X.env)] := by rfl) (hn : x ≠ "__name__" := by decide) (hdb : (x == ("__debug__" : Str)) = false := by decide) :
    EM XR W X p G (.Call (.Name x pp) [a] [] pos) R (fun s => (fa s).bind fun r1 => (g r1.1).bind fun z => .ok (z, r1.2)) := by
  obtain ⟨ta, hta, ha⟩ := ha
  refine ⟨_, pe_callTy hc hg hm hv (pa_cons hta pa_nil hs) hn hdb hs rfl, fun s F σ H A Q g k w => ha s F σ H A _ g k (WPE.bind w fun x s1 v F1 H1 B A1 ⟨rB, r1⟩ g1 e1 q1 w => ?_)⟩
  subst rB
  exact op1_run ho e1 g1 q1 r1 w (ne x)
end
end TC
namespace TC
open PySem PySem.Spec PyProof.Rows L2

section
variable {XR : XRel} {W : WX} {X : Cx} {S S' S2 : Type} {G : Ctx S} {G' : Ctx S'} {α β γ : Type} {e a b c : Expr} {es : List Expr} {pos : Pos} {p p1 p2 p3 : Bool}

/-- two operands, whatever the construct -/
theorem em_op2 {r : R2} {T1 : Ty α} {T2 : Ty β} {g : α → β → Res γ} {R : Rl γ} {fa : S → Res (α × S)} {fb : S → Res (β × S)} (mk : ∀ ta tb, PE X a ta → PE X b tb → PE X e (tOp r ta tb)) (ho : Op2 r T1 T2 g R) (ne : ∀ x y ex, g x y ≠ .er ex)
    (ha : EM XR W X p1 G a (fz T1) fa) (hb : EM XR W X p2 G b (fz T2) fb) :
    EM XR W X (p1 && p2) G e R (fun s => (fa s).bind fun r1 => (fb r1.2).bind fun r2 => (g r1.1 r2.1).bind fun z => .ok (z, r2.2)) := by
  obtain ⟨ta, hta, ha⟩ := ha
  obtain ⟨tb, htb, hb⟩ := hb
  refine ⟨_, mk _ _ hta htb, fun s F σ H A Q g k w => ha s F σ H A _ g k (WPE.bind w fun x s1 v F1 H1 B A1 ⟨rB, r1⟩ g1 e1 q1 w => ?_)⟩
  subst rB
  refine hb s1 F1 σ H1 A1 _ g1 e1.holds ?_
  cases q : fb s1 with
  | bad => rw [q] at w; exact w
  | er ex => rw [q] at w; exact fun cls oe F' H' A' h1 h2 => w cls oe F' H' A' h1 (e1.trans h2)
  | ok ys =>
    obtain ⟨y, s2⟩ := ys
    rw [q] at w
    rintro u F2 H2 B A2 ⟨rB, r2⟩ g2 e2 q2
    subst rB
    exact op2_run ho (e1.trans e2) g2 (fun hp => by
      simp only [Bool.and_eq_true] at hp
      exact ⟨(q2 hp.2).1.trans (q1 hp.1).1, (q2 hp.2).2.trans (q1 hp.1).2⟩) (T1.mono r1 e2.fz) r2 w (ne x y)
theorem em_op1 {r : V → Hp → VK → Prop} {T : Ty α} {g : α → Res γ} {R : Rl γ} {fa : S → Res (α × S)} (mk : ∀ ta, PE X a ta → PE X e (tUn r ta)) (ho : Op1 r T g R) (ne : ∀ x ex, g x ≠ .er ex) (ha : EM XR W X p G a (fz T) fa) :
    EM XR W X p G e R (fun s => (fa s).bind fun r1 => (g r1.1).bind fun z => .ok (z, r1.2)) := by
  obtain ⟨ta, hta, ha⟩ := ha
  refine ⟨_, mk _ hta, fun s F σ H A Q g k w => ha s F σ H A _ g k (WPE.bind w fun x s1 v F1 H1 B A1 ⟨rB, r1⟩ g1 e1 q1 w => ?_)⟩
  subst rB
  exact op1_run ho e1 g1 q1 r1 w (ne x)

/-! ### the operators on ints -/
theorem o2_I0 {g : Int → Int → Int} : Op2 (rI0 fun i j => .int (g i j)) tInt tInt (fun x y => .ok (g x y)) (fz tInt) := fun F H v u x y Q rv ru s h _ _ =>
  ⟨x, y, rv, ru, h _ rfl _ F H [] ⟨rfl, rfl⟩ (Ext.refl (holds_nil s))⟩
theorem o2_I {C : Int → Int → Prop} [∀ x y, Decidable (C x y)] {g : Int → Int → Int} : Op2 (rI C fun i j => .int (g i j)) tInt tInt (fun x y => if C x y then .ok (g x y) else .bad) (fz tInt) := fun F H v u x y Q rv ru s h nb _ => by
  by_cases hc : C x y
  · exact ⟨x, y, rv, ru, hc, h _ (if_pos hc) _ F H [] ⟨rfl, rfl⟩ (Ext.refl (holds_nil s))⟩
  · exact absurd (if_neg hc) nb
theorem o2_B0 {g : Int → Int → Bool} : Op2 (rI0 fun i j => .bl (g i j)) tInt tInt (fun x y => .ok (g x y)) (fz tBool) := fun F H v u x y Q rv ru s h _ _ =>
  ⟨x, y, rv, ru, h _ rfl _ F H [] ⟨rfl, rfl⟩ (Ext.refl (holds_nil s))⟩
instance {x y : Int} : Decidable (CMul x y) := by unfold CMul; infer_instance
instance {x y : Int} : Decidable (CDiv x y) := by unfold CDiv; infer_instance
instance {x y : Int} : Decidable (CPow x y) := by unfold CPow; infer_instance
def mAdd (x y : Int) : Res Int := .ok (x + y)
def mSub (x y : Int) : Res Int := .ok (x - y)
def mMul (x y : Int) : Res Int := if CMul x y then .ok (x * y) else .bad
def mMod (x y : Int) : Res Int := if 0 < y then .ok (x % y) else .bad
def mDiv (x y : Int) : Res Int := if CDiv x y then .ok (x / y) else .bad
def mPow (x y : Int) : Res Int := if CPow x y then .ok (x ^ y.toNat) else .bad
theorem ifne {α : Type} {c : Prop} [Decidable c] {z : α} {ex : Ex} : (if c then Res.ok z else .bad) ≠ .er ex := by split <;> (intro h; cases h)
theorem okne {α : Type} {z : α} {ex : Ex} : (Res.ok z) ≠ .er ex := by intro h; cases h
section
variable {fa : S → Res (Int × S)} {fb : S → Res (Int × S)} (ha : EM XR W X p1 G a (fz tInt) fa) (hb : EM XR W X p2 G b (fz tInt) fb)
include ha hb
theorem em_add : EM XR W X (p1 && p2) G (.BinOp a .Add b pos) (fz tInt) (fun s => (fa s).bind fun r1 => (fb r1.2).bind fun r2 => (mAdd r1.1 r2.1).bind fun z => .ok (z, r2.2)) := em_op2 (fun _ _ => pe_op op_add) o2_I0 (fun _ _ _ => okne) ha hb
theorem em_subt : EM XR W X (p1 && p2) G (.BinOp a .Sub b pos) (fz tInt) (fun s => (fa s).bind fun r1 => (fb r1.2).bind fun r2 => (mSub r1.1 r2.1).bind fun z => .ok (z, r2.2)) := em_op2 (fun _ _ => pe_op op_sub) o2_I0 (fun _ _ _ => okne) ha hb
theorem em_mul : EM XR W X (p1 && p2) G (.BinOp a .Mult b pos) (fz tInt) (fun s => (fa s).bind fun r1 => (fb r1.2).bind fun r2 => (mMul r1.1 r2.1).bind fun z => .ok (z, r2.2)) := em_op2 (fun _ _ => pe_op op_mul) o2_I (fun _ _ _ => ifne) ha hb
theorem em_mod : EM XR W X (p1 && p2) G (.BinOp a .Mod b pos) (fz tInt) (fun s => (fa s).bind fun r1 => (fb r1.2).bind fun r2 => (mMod r1.1 r2.1).bind fun z => .ok (z, r2.2)) := em_op2 (fun _ _ => pe_op op_mod) o2_I (fun _ _ _ => ifne) ha hb
theorem em_fdiv : EM XR W X (p1 && p2) G (.BinOp a .FloorDiv b pos) (fz tInt) (fun s => (fa s).bind fun r1 => (fb r1.2).bind fun r2 => (mDiv r1.1 r2.1).bind fun z => .ok (z, r2.2)) := em_op2 (fun _ _ => pe_op op_fdiv) o2_I (fun _ _ _ => ifne) ha hb
theorem em_pow : EM XR W X (p1 && p2) G (.BinOp a .Pow b pos) (fz tInt) (fun s => (fa s).bind fun r1 => (fb r1.2).bind fun r2 => (mPow r1.1 r2.1).bind fun z => .ok (z, r2.2)) := em_op2 (fun _ _ => pe_op op_pow) o2_I (fun _ _ _ => ifne) ha hb
end
theorem o1_neg : Op1 (rU fun i => .int (-i)) tInt (fun x => .ok (-x)) (fz tInt) := fun F H v x Q rv s h _ _ => ⟨x, rv, h _ rfl _ F H [] ⟨rfl, rfl⟩ (Ext.refl (holds_nil s))⟩
theorem em_neg {fa : S → Res (Int × S)} (ha : EM XR W X p1 G a (fz tInt) fa) : EM XR W X p1 G (.UnaryOp .USub a pos) (fz tInt) (fun s => (fa s).bind fun r1 => (Res.ok (-r1.1)).bind fun z => .ok (z, r1.2)) := em_un un_neg o1_neg (fun _ _ => okne) ha

/-! ### comparisons: what a comparison is by values -/
/-- op between two frozen values gives a truth value -/
structure Cmp (X : Cx) (op : CmpOp) (T : Ty α) (U : Ty β) (g : α → β → Bool) : Prop where
  ex : ∃ r, OpR X (compareOp op) r ∧ Op2 r T U (fun x y => .ok (g x y)) (fz tBool)
theorem c_lt : Cmp X .Lt tInt tInt (fun i j => decide (i < j)) := ⟨_, op_lt, o2_B0⟩
theorem c_le : Cmp X .LtE tInt tInt (fun i j => decide (i ≤ j)) := ⟨_, op_le, o2_B0⟩
theorem c_gt : Cmp X .Gt tInt tInt (fun i j => decide (j < i)) := ⟨_, op_gt, o2_B0⟩
theorem c_ge : Cmp X .GtE tInt tInt (fun i j => decide (j ≤ i)) := ⟨_, op_ge, o2_B0⟩
theorem flat_res {H F : Hp} {k k' : Bool} {Q : VK} {s : Same F H} (h : ∀ z, (Res.ok k') = .ok z → ∀ w F' H' B, (fz tBool).P F' w z B → Ext F H [] F' H' B → Q w H') (e : k = k') : Q (.bl k) H := by
  subst e
  exact h _ rfl _ F H [] ⟨rfl, rfl⟩ (Ext.refl (holds_nil s))
/-- a type of scalars -/
structure Scal (T : Ty α) [DecidableEq α] where
  of : α → V
  is : ∀ F v x, T.R F v x → v = of x
  inj : ∀ x y, of x = of y → x = y
  sc : ∀ x y, scal (of x) (of y) = true
  flat : ∀ x, flatV (of x) = true
  eqv : ∀ x y, eqV (of x) (of y) = decide (x = y)
def scInt : Scal tInt := ⟨V.int, fun _ _ _ h => h, fun _ _ h => by cases h; rfl, fun _ _ => rfl, fun _ => rfl, fun x y => by show (x == y) = _; exact Bool.beq_eq_decide_eq x y⟩
def scBool : Scal tBool := ⟨V.bl, fun _ _ _ h => h, fun _ _ h => by cases h; rfl, fun _ _ => rfl, fun _ => rfl, fun x y => by cases x <;> cases y <;> rfl⟩
def scStr : Scal tStr := ⟨V.str, fun _ _ _ h => h, fun _ _ h => by cases h; rfl, fun _ _ => rfl, fun _ => rfl, fun x y => by show (x == y) = _; exact Bool.beq_eq_decide_eq x y⟩
theorem dec_congr {P Q : Prop} [Decidable P] [Decidable Q] (h : P ↔ Q) : decide P = decide Q := by
  by_cases q : Q
  · rw [decide_eq_true q, decide_eq_true (h.mpr q)]
  · rw [decide_eq_false q, decide_eq_false fun z => q (h.mp z)]
theorem c_eqS [DecidableEq α] {T : Ty α} (c : Scal T) : Cmp X .Eq T T (fun i j => decide (i = j)) := ⟨_, op_eq, fun F H v u x y Q rv ru s h _ _ => by
  rw [c.is F v x rv, c.is F u y ru]
  exact ⟨c.sc x y, flat_res (s := s) h (dec_congr ⟨c.inj x y, fun q => by rw [q]⟩)⟩⟩
theorem c_neS [DecidableEq α] {T : Ty α} (c : Scal T) : Cmp X .NotEq T T (fun i j => !decide (i = j)) := ⟨_, op_ne, fun F H v u x y Q rv ru s h _ _ => by
  rw [c.is F v x rv, c.is F u y ru]
  exact ⟨c.sc x y, flat_res (s := s) h (congrArg _ (dec_congr ⟨c.inj x y, fun q => by rw [q]⟩))⟩⟩
/-- data of any depth -/
structure EqT (K : PySem.W.Frag) (T : Ty α) [DecidableEq α] where
  enc : α → PyData
  dp : ∀ {H v x}, T.R H v x → Dp K H v (enc x)
  lay : ∀ {H v x}, T.R H v x → (enc x).canLay0 = true
  d : Nat
  dep : ∀ x, (enc x).depth ≤ d
  eqv : ∀ x y, PyData.eqv (enc x) (enc y) = decide (x = y)
theorem EqT.sh {K : PySem.W.Frag} {T : Ty α} [DecidableEq α] (c : EqT K T) (hd : c.d ≤ 64) {H : Hp} {v : V} {x : α} (r : T.R H v x) : SeqAt.shaped (c.enc x) = true := by
  unfold SeqAt.shaped
  rw [c.lay r, Bool.true_and]
  exact decide_eq_true (Nat.le_trans (c.dep x) hd)
theorem c_eqD [DecidableEq α] {T : Ty α} (c : EqT X.K T) (hu : X.A.units + 64 < cLine) (hd : c.d ≤ 64) : Cmp X .Eq T T (fun i j => decide (i = j)) := ⟨_, op_eqD hu, fun F H v u x y Q rv ru s h _ _ =>
  ⟨c.enc x, c.enc y, c.dp (T.mono rv s), c.dp (T.mono ru s), c.sh hd rv, c.sh hd ru, flat_res (s := s) h (c.eqv x y)⟩⟩
theorem c_neD [DecidableEq α] {T : Ty α} (c : EqT X.K T) (hu : X.A.units + 64 < cLine) (hd : c.d ≤ 64) : Cmp X .NotEq T T (fun i j => !decide (i = j)) := ⟨_, op_neD hu, fun F H v u x y Q rv ru s h _ _ =>
  ⟨c.enc x, c.enc y, c.dp (T.mono rv s), c.dp (T.mono ru s), c.sh hd rv, c.sh hd ru, flat_res (s := s) h (congrArg _ (c.eqv x y))⟩⟩
theorem inV_of [DecidableEq α] {T : Ty α} (c : Scal T) {F : Hp} {x : α} : ∀ {vs : List V} {xs : List α}, All2 (T.R F) vs xs → inV (c.of x) vs = decide (x ∈ xs) ∧ vs.all flatV = true
  | [], [], _ => by simp [inV]
  | v :: vs, y :: ys, h => by
    obtain ⟨e1, e2⟩ := inV_of c (x := x) h.2
    have ev := c.is F v y h.1
    refine ⟨?_, ?_⟩
    · show (eqV v (c.of x) || inV (c.of x) vs) = _
      rw [e1, ev, c.eqv, Bool.eq_iff_iff]
      simp only [Bool.or_eq_true, decide_eq_true_eq, List.mem_cons]
      exact or_congr ⟨Eq.symm, Eq.symm⟩ Iff.rfl
    · rw [List.all_cons, ev, c.flat, e2]; rfl
  | [], _ :: _, h => h.elim
  | _ :: _, [], h => h.elim
theorem c_inL [DecidableEq α] {T : Ty α} (c : Scal T) : Cmp X .In T (tLst T) (fun i j => decide (i ∈ j)) := ⟨_, op_in_seq, fun F H v u x y Q rv ru s h _ _ => by
  obtain ⟨a, vs, rfl, q, r⟩ := ru
  obtain ⟨e1, e2⟩ := inV_of c (x := x) r
  rw [c.is F v x rv]
  exact ⟨a, vs, rfl, .inl (SqL.of (s _ _ q)), c.flat x, e2, flat_res (s := s) h e1⟩⟩
theorem c_inT [DecidableEq α] {T : Ty α} (c : Scal T) : Cmp X .In T (tTup T) (fun i j => decide (i ∈ j)) := ⟨_, op_in_seq, fun F H v u x y Q rv ru s h _ _ => by
  obtain ⟨a, vs, rfl, q, r⟩ := ru
  obtain ⟨e1, e2⟩ := inV_of c (x := x) r
  rw [c.is F v x rv]
  exact ⟨a, vs, rfl, .inr (SqT.of (s _ _ q)), c.flat x, e2, flat_res (s := s) h e1⟩⟩
theorem c_ninL [DecidableEq α] {T : Ty α} (c : Scal T) : Cmp X .NotIn T (tLst T) (fun i j => !decide (i ∈ j)) := ⟨_, op_notIn_seq, fun F H v u x y Q rv ru s h _ _ => by
  obtain ⟨a, vs, rfl, q, r⟩ := ru
  obtain ⟨e1, e2⟩ := inV_of c (x := x) r
  rw [c.is F v x rv]
  exact ⟨a, vs, rfl, .inl (SqL.of (s _ _ q)), c.flat x, e2, flat_res (s := s) h (by rw [if_pos rfl, e1])⟩⟩
theorem c_ninT [DecidableEq α] {T : Ty α} (c : Scal T) : Cmp X .NotIn T (tTup T) (fun i j => !decide (i ∈ j)) := ⟨_, op_notIn_seq, fun F H v u x y Q rv ru s h _ _ => by
  obtain ⟨a, vs, rfl, q, r⟩ := ru
  obtain ⟨e1, e2⟩ := inV_of c (x := x) r
  rw [c.is F v x rv]
  exact ⟨a, vs, rfl, .inr (SqT.of (s _ _ q)), c.flat x, e2, flat_res (s := s) h (by rw [if_pos rfl, e1])⟩⟩
/-- as a value -/
theorem em_c {op : CmpOp} {T : Ty α} {U : Ty β} {g : α → β → Bool} {fa : S → Res (α × S)} {fb : S → Res (β × S)} (c : Cmp X op T U g) (hm : behindInMarks op b = false) (ha : EM XR W X p1 G a (fz T) fa) (hb : EM XR W X p2 G b (fz U) fb) :
    EM XR W X (p1 && p2) G (.Compare a [op] [b] pos) (fz tBool) (fun s => (fa s).bind fun r1 => (fb r1.2).bind fun r2 => .ok (g r1.1 r2.1, r2.2)) := by
  obtain ⟨r, h1, h2⟩ := c.ex
  exact em_op2 (fun _ _ => fun u v => pe_cmpR h1 u v hm) h2 (fun _ _ _ => okne) ha hb
/-- as a test -/
theorem tm_c {op : CmpOp} {T : Ty α} {U : Ty β} {g : α → β → Bool} {fa : S → Res (α × S)} {fb : S → Res (β × S)} (c : Cmp X op T U g) (hm : behindInMarks op b = false) (ha : EM XR W X p1 G a (fz T) fa) (hb : EM XR W X p2 G b (fz U) fb) :
    TM XR W X (p1 && p2) G (.Compare a [op] [b] pos) (fun s => (fa s).bind fun r1 => (fb r1.2).bind fun r2 => .ok (g r1.1 r2.1, r2.2)) := by
  obtain ⟨r, h1, ho⟩ := c.ex
  obtain ⟨ta, hta, ha⟩ := ha
  obtain ⟨tb, htb, hb⟩ := hb
  refine ⟨_, pt_cmpR h1 hta htb hm, fun s F σ H A Q g' k w => ha s F σ H A _ g' k (WPE.bindT w fun x s1 v F1 H1 B A1 ⟨rB, r1⟩ g1 e1 q1 w => ?_)⟩
  subst rB
  refine hb s1 F1 σ H1 A1 _ g1 e1.holds ?_
  cases q : fb s1 with
  | bad => rw [q] at w; exact w
  | er ex => rw [q] at w; exact fun cls oe F' H' A' h1 h2 => w cls oe F' H' A' h1 (e1.trans h2)
  | ok ys =>
    obtain ⟨y, s2⟩ := ys
    rw [q] at w
    rintro u F2 H2 B A2 ⟨rB, r2⟩ g2 e2 q2
    subst rB
    refine ho F2 H2 v u x y _ (T.mono r1 e2.fz) r2 e2.holds.fz (fun z ez w' F' H' B hr ex => ?_) (by intro h; cases h) (fun _ => okne)
    obtain ⟨rB, rw'⟩ := hr
    cases ez
    subst rB
    exact ⟨_, rw', w F' H' A2 (G.mono g2 ex.fz) ((e1.trans e2).trans (ext_nil e2.holds ex)) fun hp => by
      simp only [Bool.and_eq_true] at hp
      exact ⟨(q2 hp.2).1.trans (q1 hp.1).1, (q2 hp.2).2.trans (q1 hp.1).2⟩⟩
/-- a < b < c and its like -/
theorem tm_chain {op op' : CmpOp} {T : Ty α} {U : Ty β} {V' : Ty γ} {g : α → β → Bool} {g' : β → γ → Bool} {fa : S → Res (α × S)} {fb : S → Res (β × S)} {fc : S → Res (γ × S)} (c1 : Cmp X op T U g) (c2 : Cmp X op' U V' g') 
    (ha : EM XR W X p1 G a (fz T) fa) (hb : EM XR W X p2 G b (fz U) fb) (hc : EM XR W X p3 G c (fz V') fc) 
    (mk : ∀ r r' ta tb tc, OpR X (compareOp op) r → OpR X (compareOp op') r' → PE X a ta → PE X b tb → PE X c tc → PE X e (tChain r r' ta tb tc)) :
    EM XR W X (p1 && (p2 && p3)) G e (fz tBool) (fun s => (fa s).bind fun r1 => (fb r1.2).bind fun r2 => if g r1.1 r2.1 then (fc r2.2).bind fun r3 => .ok (g' r2.1 r3.1, r3.2) else .ok (false, r2.2)) := by
  obtain ⟨r, h1, ho⟩ := c1.ex
  obtain ⟨r', h1', ho'⟩ := c2.ex
  obtain ⟨ta, hta, ha⟩ := ha
  obtain ⟨tb, htb, hb⟩ := hb
  obtain ⟨tc, htc, hc⟩ := hc
  refine ⟨_, mk _ _ _ _ _ h1 h1' hta htb htc, fun s F σ H A Q gg k w => ha s F σ H A _ gg k (WPE.bind w fun x s1 v F1 H1 B A1 ⟨rB, r1⟩ g1 e1 q1 w => ?_)⟩
  subst rB
  refine hb s1 F1 σ H1 A1 _ g1 e1.holds ?_
  cases q : fb s1 with
  | bad => rw [q] at w; exact w
  | er ex => rw [q] at w; exact fun cls oe F' H' A' h1 h2 => w cls oe F' H' A' h1 (e1.trans h2)
  | ok ys =>
    obtain ⟨y, s2⟩ := ys
    rw [q] at w
    rintro u F2 H2 B A2 ⟨rB, r2⟩ g2 e2 q2
    subst rB
    refine ho F2 H2 v u x y _ (T.mono r1 e2.fz) r2 e2.holds.fz (fun z ez w' F3 H3 B hr ex => ?_) (by intro h; cases h) (fun _ => okne)
    obtain ⟨rB, rw'⟩ := hr
    cases ez
    subst rB
    have e3 := e2.trans (ext_nil e2.holds ex)
    refine ⟨_, rw', ?_⟩
    simp only [Res.bind_ok] at w
    by_cases hg : g x y = true
    · rw [if_pos hg] at w ⊢
      refine hc s2 F3 σ H3 A2 _ (G.mono g2 ex.fz) e3.holds ?_
      cases q3 : fc s2 with
      | bad => rw [q3] at w; exact w
      | er ex => rw [q3] at w; exact fun cls oe F' H' A' h1 h2 => w cls oe F' H' A' h1 ((e1.trans e3).trans h2)
      | ok zs =>
        obtain ⟨z, s3⟩ := zs
        rw [q3] at w
        rintro uz F4 H4 B A4 ⟨rB, r4⟩ g4 e4 q4
        subst rB
        refine ho' F4 H4 u uz y z _ (U.mono (U.mono r2 ex.fz) e4.fz) r4 e4.holds.fz (fun z' ez w'' F5 H5 B hr ex5 => ?_) (by intro h; cases h) (fun _ => okne)
        cases ez
        exact w w'' F5 H5 B A4 hr (G.mono g4 ex5.fz) ((e1.trans (e3.trans e4)).trans (ext_nil e4.holds ex5)) fun hp => by
          simp only [Bool.and_eq_true] at hp
          exact ⟨(q4 hp.2.2).1.trans ((q2 hp.2.1).1.trans (q1 hp.1).1), (q4 hp.2.2).2.trans ((q2 hp.2.1).2.trans (q1 hp.1).2)⟩
    · rw [if_neg hg] at w ⊢
      refine w _ F3 H3 [] A2 ⟨rfl, rfl⟩ (G.mono g2 ex.fz) (e1.trans e3) fun hp => by
          simp only [Bool.and_eq_true] at hp
          exact ⟨(q2 hp.2.1).1.trans (q1 hp.1).1, (q2 hp.2.1).2.trans (q1 hp.1).2⟩

/-! ### is None -/
theorem em_isN {j : Nat} {pos' : Pos} {T : Ty α} {fa : S → Res (Option α × S)} (ha : EM XR W X p G a (fz (tOpt T)) fa) : EM XR W X p G (.Compare a [.Is] [.Constant .none j pos'] pos) (fz tBool) (fun s => (fa s).bind fun r => .ok (r.1.isNone, r.2)) := by
  obtain ⟨ta, hta, ha⟩ := ha
  refine ⟨_, pe_cmp (pc_isN hta) (by first | exact nobehind _ (by decide) (by decide) | rfl), fun s F σ H A Q g k w => ha s F σ H A _ g k (WPE.bind w fun x s1 v F1 H1 B A1 ⟨rB, r1⟩ g1 e1 q1 w => ?_)⟩
  subst rB
  refine w _ F1 H1 [] A1 ⟨rfl, ?_⟩ g1 e1 q1
  cases x with
  | none => have r1 : v = .non := r1; rw [r1]; rfl
  | some y => have r1 : v ≠ .non ∧ T.R F1 v y := r1; show V.bl (decide (v = .non)) = V.bl false; rw [decide_eq_false r1.1]
theorem em_notN {j : Nat} {pos' : Pos} {T : Ty α} {fa : S → Res (Option α × S)} (ha : EM XR W X p G a (fz (tOpt T)) fa) : EM XR W X p G (.Compare a [.IsNot] [.Constant .none j pos'] pos) (fz tBool) (fun s => (fa s).bind fun r => .ok (r.1.isSome, r.2)) := by
  obtain ⟨ta, hta, ha⟩ := ha
  refine ⟨_, pe_cmp (pc_notN hta) (by first | exact nobehind _ (by decide) (by decide) | rfl), fun s F σ H A Q g k w => ha s F σ H A _ g k (WPE.bind w fun x s1 v F1 H1 B A1 ⟨rB, r1⟩ g1 e1 q1 w => ?_)⟩
  subst rB
  refine w _ F1 H1 [] A1 ⟨rfl, ?_⟩ g1 e1 q1
  cases x with
  | none => have r1 : v = .non := r1; rw [r1]; rfl
  | some y => have r1 : v ≠ .non ∧ T.R F1 v y := r1; show V.bl (!decide (v = .non)) = V.bl true; rw [decide_eq_false r1.1]; rfl

/-! ### tests -/
/-- a truth value as a test -/
theorem tm_val {f : S → Res (Bool × S)} (h : EM XR W X p G e (fz tBool) f) (he : ∀ whole, isTrue e X.env whole = (do let v ← whole; standAt e.pos; holding [v] (truthy v)) := by intro _; rfl) : TM XR W X p G e f := by
  obtain ⟨t, ht, h⟩ := h
  refine ⟨_, pt_val ht he, fun s F σ H A Q g k w => h s F σ H A _ g k ?_⟩
  cases q : f s with
  | bad => rw [q] at w; exact w
  | er ex => rw [q] at w; exact w
  | ok xs =>
    obtain ⟨x, s1⟩ := xs
    rw [q] at w
    rintro v F1 H1 B A1 ⟨rB, r1⟩ g1 e1 q1
    subst rB
    exact ⟨x, r1, w F1 H1 A1 g1 e1 q1⟩
/-- a test that is a comparison of another form (is None) -/
theorem tm_isN {j : Nat} {pos' : Pos} {T : Ty α} {fa : S → Res (Option α × S)} (ha : EM XR W X p G a (fz (tOpt T)) fa) : TM XR W X p G (.Compare a [.Is] [.Constant .none j pos'] pos) (fun s => (fa s).bind fun r => .ok (r.1.isNone, r.2)) := by
  obtain ⟨ta, hta, ha⟩ := ha
  refine ⟨_, pt_cmp (pc_isN hta) (by first | exact nobehind _ (by decide) (by decide) | rfl), fun s F σ H A Q g k w => ha s F σ H A _ g k (WPE.bindT w fun x s1 v F1 H1 B A1 ⟨rB, r1⟩ g1 e1 q1 w => ?_)⟩
  subst rB
  refine ⟨x.isNone, ?_, w F1 H1 A1 g1 e1 q1⟩
  cases x with
  | none => have r1 : v = .non := r1; rw [r1]; rfl
  | some y => have r1 : v ≠ .non ∧ T.R F1 v y := r1; show V.bl (decide (v = .non)) = V.bl false; rw [decide_eq_false r1.1]
theorem tm_notN {j : Nat} {pos' : Pos} {T : Ty α} {fa : S → Res (Option α × S)} (ha : EM XR W X p G a (fz (tOpt T)) fa) : TM XR W X p G (.Compare a [.IsNot] [.Constant .none j pos'] pos) (fun s => (fa s).bind fun r => .ok (r.1.isSome, r.2)) := by
  obtain ⟨ta, hta, ha⟩ := ha
  refine ⟨_, pt_cmp (pc_notN hta) (by first | exact nobehind _ (by decide) (by decide) | rfl), fun s F σ H A Q g k w => ha s F σ H A _ g k (WPE.bindT w fun x s1 v F1 H1 B A1 ⟨rB, r1⟩ g1 e1 q1 w => ?_)⟩
  subst rB
  refine ⟨x.isSome, ?_, w F1 H1 A1 g1 e1 q1⟩
  cases x with
  | none => have r1 : v = .non := r1; rw [r1]; rfl
  | some y => have r1 : v ≠ .non ∧ T.R F1 v y := r1; show V.bl (!decide (v = .non)) = V.bl true; rw [decide_eq_false r1.1]; rfl
theorem tm_not {f : S → Res (Bool × S)} (h : TM XR W X p G e f) : TM XR W X p G (.UnaryOp .Not e pos) (fun s => (f s).bind fun r => .ok (!r.1, r.2)) := by
  obtain ⟨t, ht, h⟩ := h
  exact ⟨_, pt_not ht, fun s F σ H A Q g k w => h s F σ H A _ g k (WPT.bind w fun x s1 F1 H1 A1 g1 e1 q1 w => w F1 H1 A1 g1 e1 q1)⟩
theorem tm_b {f : S → Res (Bool × S)} (h : BM XR W X p G e f) : TM XR W X p G e f := by
  obtain ⟨t, ht, h⟩ := h
  exact ⟨t, ht.pt, h⟩
theorem bm_and1 {f : S → Res (Bool × S)} (h : TM XR W X p G e f) : BM XR W X p G (.BoolOp .And [e] pos) f := by
  obtain ⟨t, ht, h⟩ := h
  exact ⟨t, pw_and1 ht, h⟩
theorem bm_or1 {f : S → Res (Bool × S)} (h : TM XR W X p G e f) : BM XR W X p G (.BoolOp .Or [e] pos) f := by
  obtain ⟨t, ht, h⟩ := h
  exact ⟨t, pw_or1 ht, h⟩
theorem bm_and {f g : S → Res (Bool × S)} (h : TM XR W X p1 G a f) (h' : BM XR W X p2 G (.BoolOp .And (b :: es) pos) g) : BM XR W X (p1 && p2) G (.BoolOp .And (a :: b :: es) pos) (fun s => (f s).bind fun r => if r.1 then g r.2 else .ok (false, r.2)) := by
  obtain ⟨t, ht, h⟩ := h
  obtain ⟨u, hu, h'⟩ := h'
  refine ⟨_, pw_and ht hu, fun s F σ H A Q gg k w => h s F σ H A _ gg k (WPT.bind w fun x s1 F1 H1 A1 g1 e1 q1 w => ?_)⟩
  cases x with
  | false =>
    rw [if_neg Bool.false_ne_true]
    exact w F1 H1 A1 g1 e1 fun hp => q1 (Bool.and_eq_true_iff.mp hp).1
  | true =>
    rw [if_pos rfl]
    simp only [if_pos] at w
    refine h' s1 F1 σ H1 A1 _ g1 e1.holds ?_
    cases q : g s1 with
    | bad => rw [q] at w; exact w
    | er ex => rw [q] at w; exact fun cls oe F' H' A' h1 h2 => w cls oe F' H' A' h1 (e1.trans h2)
    | ok ys =>
      obtain ⟨y, s2⟩ := ys
      rw [q] at w
      exact fun F2 H2 A2 g2 e2 q2 => w F2 H2 A2 g2 (e1.trans e2) fun hp => ⟨(q2 (Bool.and_eq_true_iff.mp hp).2).1.trans (q1 (Bool.and_eq_true_iff.mp hp).1).1, (q2 (Bool.and_eq_true_iff.mp hp).2).2.trans (q1 (Bool.and_eq_true_iff.mp hp).1).2⟩
theorem bm_or {f g : S → Res (Bool × S)} (h : TM XR W X p1 G a f) (h' : BM XR W X p2 G (.BoolOp .Or (b :: es) pos) g) : BM XR W X (p1 && p2) G (.BoolOp .Or (a :: b :: es) pos) (fun s => (f s).bind fun r => if r.1 then .ok (true, r.2) else g r.2) := by
  obtain ⟨t, ht, h⟩ := h
  obtain ⟨u, hu, h'⟩ := h'
  refine ⟨_, pw_or ht hu, fun s F σ H A Q gg k w => h s F σ H A _ gg k (WPT.bind w fun x s1 F1 H1 A1 g1 e1 q1 w => ?_)⟩
  cases x with
  | true =>
    rw [if_pos rfl]
    exact w F1 H1 A1 g1 e1 fun hp => q1 (Bool.and_eq_true_iff.mp hp).1
  | false =>
    rw [if_neg Bool.false_ne_true]
    simp only [Bool.false_eq_true, if_false] at w
    refine h' s1 F1 σ H1 A1 _ g1 e1.holds ?_
    cases q : g s1 with
    | bad => rw [q] at w; exact w
    | er ex => rw [q] at w; exact fun cls oe F' H' A' h1 h2 => w cls oe F' H' A' h1 (e1.trans h2)
    | ok ys =>
      obtain ⟨y, s2⟩ := ys
      rw [q] at w
      exact fun F2 H2 A2 g2 e2 q2 => w F2 H2 A2 g2 (e1.trans e2) fun hp => ⟨(q2 (Bool.and_eq_true_iff.mp hp).2).1.trans (q1 (Bool.and_eq_true_iff.mp hp).1).1, (q2 (Bool.and_eq_true_iff.mp hp).2).2.trans (q1 (Bool.and_eq_true_iff.mp hp).1).2⟩
/-! ### and, or, not, if-else as values -/
theorem em_one {op : BoolOp} {R : Rl α} {f : S → Res (α × S)} (h : EM XR W X p G e R f) : EM XR W X p G (.BoolOp op [e] pos) R f := by
  obtain ⟨t, ht, h⟩ := h
  exact ⟨t, pe_one ht, h⟩
theorem em_and {f g : S → Res (Bool × S)} (h : EM XR W X p1 G a (fz tBool) f) (h' : EM XR W X p2 G (.BoolOp .And (b :: es) pos) (fz tBool) g) : EM XR W X (p1 && p2) G (.BoolOp .And (a :: b :: es) pos) (fz tBool) (fun s => (f s).bind fun r => if r.1 then g r.2 else .ok (false, r.2)) := by
  obtain ⟨t, ht, h⟩ := h
  obtain ⟨u, hu, h'⟩ := h'
  refine ⟨_, pe_and ht hu, fun s F σ H A Q gg k w => h s F σ H A _ gg k (WPE.bind w fun x s1 v F1 H1 B A1 ⟨rB, r1⟩ g1 e1 q1 w => ?_)⟩
  subst rB
  refine ⟨x, r1, ?_⟩
  cases x with
  | false =>
    rw [if_neg Bool.false_ne_true]
    exact w _ F1 H1 [] A1 ⟨rfl, rfl⟩ g1 e1 fun hp => q1 (Bool.and_eq_true_iff.mp hp).1
  | true =>
    rw [if_pos rfl]
    simp only [if_pos] at w
    refine h' s1 F1 σ H1 A1 _ g1 e1.holds ?_
    cases q : g s1 with
    | bad => rw [q] at w; exact w
    | er ex => rw [q] at w; exact fun cls oe F' H' A' h1 h2 => w cls oe F' H' A' h1 (e1.trans h2)
    | ok ys =>
      obtain ⟨y, s2⟩ := ys
      rw [q] at w
      exact fun v2 F2 H2 B2 A2 r2 g2 e2 q2 => w v2 F2 H2 B2 A2 r2 g2 (e1.trans e2) fun hp => ⟨(q2 (Bool.and_eq_true_iff.mp hp).2).1.trans (q1 (Bool.and_eq_true_iff.mp hp).1).1, (q2 (Bool.and_eq_true_iff.mp hp).2).2.trans (q1 (Bool.and_eq_true_iff.mp hp).1).2⟩
theorem em_or {f g : S → Res (Bool × S)} (h : EM XR W X p1 G a (fz tBool) f) (h' : EM XR W X p2 G (.BoolOp .Or (b :: es) pos) (fz tBool) g) : EM XR W X (p1 && p2) G (.BoolOp .Or (a :: b :: es) pos) (fz tBool) (fun s => (f s).bind fun r => if r.1 then .ok (true, r.2) else g r.2) := by
  obtain ⟨t, ht, h⟩ := h
  obtain ⟨u, hu, h'⟩ := h'
  refine ⟨_, pe_or ht hu, fun s F σ H A Q gg k w => h s F σ H A _ gg k (WPE.bind w fun x s1 v F1 H1 B A1 ⟨rB, r1⟩ g1 e1 q1 w => ?_)⟩
  subst rB
  refine ⟨x, r1, ?_⟩
  cases x with
  | true =>
    rw [if_pos rfl]
    exact w _ F1 H1 [] A1 ⟨rfl, rfl⟩ g1 e1 fun hp => q1 (Bool.and_eq_true_iff.mp hp).1
  | false =>
    rw [if_neg Bool.false_ne_true]
    simp only [Bool.false_eq_true, if_false] at w
    refine h' s1 F1 σ H1 A1 _ g1 e1.holds ?_
    cases q : g s1 with
    | bad => rw [q] at w; exact w
    | er ex => rw [q] at w; exact fun cls oe F' H' A' h1 h2 => w cls oe F' H' A' h1 (e1.trans h2)
    | ok ys =>
      obtain ⟨y, s2⟩ := ys
      rw [q] at w
      exact fun v2 F2 H2 B2 A2 r2 g2 e2 q2 => w v2 F2 H2 B2 A2 r2 g2 (e1.trans e2) fun hp => ⟨(q2 (Bool.and_eq_true_iff.mp hp).2).1.trans (q1 (Bool.and_eq_true_iff.mp hp).1).1, (q2 (Bool.and_eq_true_iff.mp hp).2).2.trans (q1 (Bool.and_eq_true_iff.mp hp).1).2⟩
theorem em_not {f : S → Res (Bool × S)} (h : EM XR W X p G e (fz tBool) f) : EM XR W X p G (.UnaryOp .Not e pos) (fz tBool) (fun s => (f s).bind fun r => .ok (!r.1, r.2)) := by
  obtain ⟨t, ht, h⟩ := h
  refine ⟨_, pe_not ht, fun s F σ H A Q g k w => h s F σ H A _ g k (WPE.bind w fun x s1 v F1 H1 B A1 ⟨rB, r1⟩ g1 e1 q1 w => ?_)⟩
  subst rB
  exact ⟨x, r1, w _ F1 H1 [] A1 ⟨rfl, rfl⟩ g1 e1 q1⟩
theorem em_if {R : Rl α} {f : S → Res (Bool × S)} {ga gb : S → Res (α × S)} (h : TM XR W X p1 G c f) (ha : EM XR W X p2 G a R ga) (hb : EM XR W X p3 G b R gb) :
    EM XR W X (p1 && (p2 && p3)) G (.IfExp c a b pos) R (fun s => (f s).bind fun r => if r.1 then ga r.2 else gb r.2) := by
  obtain ⟨t, ht, h⟩ := h
  obtain ⟨u, hu, ha⟩ := ha
  obtain ⟨v, hv, hb⟩ := hb
  refine ⟨_, pe_ifExp ht hu hv, fun s F σ H A Q gg k w => h s F σ H A _ gg k (WPT.bindE w fun x s1 F1 H1 A1 g1 e1 q1 w => ?_)⟩
  cases x with
  | true =>
    rw [if_pos rfl]
    simp only [if_pos] at w
    refine ha s1 F1 σ H1 A1 _ g1 e1.holds ?_
    cases q : ga s1 with
    | bad => rw [q] at w; exact w
    | er ex => rw [q] at w; exact fun cls oe F' H' A' h1 h2 => w cls oe F' H' A' h1 (e1.trans h2)
    | ok ys =>
      obtain ⟨y, s2⟩ := ys
      rw [q] at w
      exact fun v2 F2 H2 B2 A2 r2 g2 e2 q2 => w v2 F2 H2 B2 A2 r2 g2 (e1.trans e2) fun hp => by
        simp only [Bool.and_eq_true] at hp
        exact ⟨(q2 hp.2.1).1.trans (q1 hp.1).1, (q2 hp.2.1).2.trans (q1 hp.1).2⟩
  | false =>
    rw [if_neg Bool.false_ne_true]
    simp only [Bool.false_eq_true, if_false] at w
    refine hb s1 F1 σ H1 A1 _ g1 e1.holds ?_
    cases q : gb s1 with
    | bad => rw [q] at w; exact w
    | er ex => rw [q] at w; exact fun cls oe F' H' A' h1 h2 => w cls oe F' H' A' h1 (e1.trans h2)
    | ok ys =>
      obtain ⟨y, s2⟩ := ys
      rw [q] at w
      exact fun v2 F2 H2 B2 A2 r2 g2 e2 q2 => w v2 F2 H2 B2 A2 r2 g2 (e1.trans e2) fun hp => by
        simp only [Bool.and_eq_true] at hp
        exact ⟨(q2 hp.2.2).1.trans (q1 hp.1).1, (q2 hp.2.2).2.trans (q1 hp.1).2⟩
end
end TC
namespace TC
open PySem PySem.Spec PyProof.Rows L2

/-- an item at an index -/
def mIx {α : Type} (xs : List α) (i : Int) : Res α := match atI xs i with
  | some x => .ok x
  | none => .bad
theorem mIx_ne {α : Type} {xs : List α} {i : Int} {ex : Ex} : mIx xs i ≠ .er ex := by unfold mIx; split <;> (intro h; cases h)
theorem ixN_lt {n : Nat} {i : Int} {j : Nat} (h : ixN n i = some j) : j < n := (ixN_seq h).2.1
theorem All2.atI {α : Type} {R : V → α → Prop} {vs : List V} {xs : List α} {i : Int} {x : α} (h : All2 R vs xs) (e : L2.atI xs i = some x) : ∃ v, L2.atI vs i = some v ∧ R v x := by
  unfold L2.atI at e ⊢
  rw [h.length]
  cases q : ixN xs.length i with
  | none => rw [q] at e; cases e
  | some j =>
    rw [q] at e
    exact h.get e
/-- the item is stored -/
def mSet {α : Type} (xs : List α) (i : Int) (x : α) : Res (List α) := match ixN xs.length i with
  | some j => .ok (xs.set j x)
  | none => .bad
def mApp {α : Type} (xs : List α) (x : α) : Res (List α) := if xs.length < sizeLine then .ok (xs ++ [x]) else .bad
def mCat {α : Type} (xs ys : List α) : Res (List α) := if xs.length + ys.length ≤ sizeLine then .ok (xs ++ ys) else .bad

section
variable {XR : XRel} {W : WX} {X : Cx} {S S' S2 L ρ : Type} {G : Ctx S} {G' : Ctx S'} {G2 : Ctx S2} {α β γ : Type} {e a b c : Expr} {es : List Expr} {pos : Pos} {p p1 p2 p3 : Bool}

/-! ### items -/
theorem o2_ixL {K : PySem.W.Frag} {T : Ty α} : Op2 (rIxL K) (tLst T) tInt mIx (fz T) := fun F H v u x y Q ⟨a, vs, ev, q, r⟩ ru s h nb _ => by
  unfold mIx at h nb
  cases e : atI x y with
  | none => rw [e] at nb; exact absurd rfl nb
  | some z =>
    obtain ⟨w, h1, h2⟩ := r.atI e
    rw [e] at h
    exact ⟨a, vs, y, w, ev, ru, SqL.of (s _ _ q), h1, h z rfl w F H [] ⟨rfl, h2⟩ (Ext.refl (holds_nil s))⟩
theorem o2_ixT {K : PySem.W.Frag} {T : Ty α} : Op2 (rIxT K) (tTup T) tInt mIx (fz T) := fun F H v u x y Q ⟨a, vs, ev, q, r⟩ ru s h nb _ => by
  unfold mIx at h nb
  cases e : atI x y with
  | none => rw [e] at nb; exact absurd rfl nb
  | some z =>
    obtain ⟨w, h1, h2⟩ := r.atI e
    rw [e] at h
    exact ⟨a, vs, y, w, ev, ru, SqT.of (s _ _ q), h1, h z rfl w F H [] ⟨rfl, h2⟩ (Ext.refl (holds_nil s))⟩
section
variable {T : Ty α} {fa : S → Res (List α × S)} {fb : S → Res (Int × S)}
theorem em_ixL (hs : PlainIx b) (ha : EM XR W X p1 G a (fz (tLst T)) fa) (hb : EM XR W X p2 G b (fz tInt) fb) : EM XR W X (p1 && p2) G (.Subscript a b pos) (fz T) (fun s => (fa s).bind fun r1 => (fb r1.2).bind fun r2 => (mIx r1.1 r2.1).bind fun z => .ok (z, r2.2)) :=
  em_op2 (fun _ _ u v => pe_ix ix_list u v hs) o2_ixL (fun _ _ _ => mIx_ne) ha hb
theorem em_ixT (hs : PlainIx b) (ha : EM XR W X p1 G a (fz (tTup T)) fa) (hb : EM XR W X p2 G b (fz tInt) fb) : EM XR W X (p1 && p2) G (.Subscript a b pos) (fz T) (fun s => (fa s).bind fun r1 => (fb r1.2).bind fun r2 => (mIx r1.1 r2.1).bind fun z => .ok (z, r2.2)) :=
  em_op2 (fun _ _ u v => pe_ix ix_tup u v hs) o2_ixT (fun _ _ _ => mIx_ne) ha hb
end
/-- an item of an owned list that stands in a slot -/
theorem em_ixO {T : Ty α} {fb : S → Res (Int × S)} {i : Nat} {x : Str} {get : S → List α} {put : S → List α → S} {pp : Pos} (hN : X.N[i]? = some x) (hv : Vis X.env.scope x) {sl : Sl (List α)} [os : OL T sl] (at_ : At G i sl get sl G put) (hs : PlainIx b) (hb : EM XR W X p2 G b (fz tInt) fb)
    (hd : (x == ("__debug__" : Str)) = false := by decide) (hcd : (x == ("__classdict__" : Str)) = false := by decide) :
    EM XR W X p2 G (.Subscript (.Name x pp) b pos) (fz T) (fun s => (fb s).bind fun r2 => (mIx (get r2.2) r2.1).bind fun z => .ok (z, r2.2)) := by
  obtain ⟨tb, htb, hb⟩ := hb
  refine ⟨_, pe_ix ix_list (pe_var hN hv hd hcd) htb hs, fun s F σ H A Q g k w => ?_⟩
  obtain ⟨o, L, B, R, e1, e2, hsl, _⟩ := at_.at_ s F σ A g
  obtain ⟨a, vs, rfl, e4, r, _⟩ := os.opn hsl
  refine ⟨.ref a, e1, hb s F σ H A _ g k (WPE.bind w fun y s1 u F1 H1 B1 A1 ⟨rB, r1⟩ g1 x1 q1 w => ?_)⟩
  subst rB
  obtain ⟨o', L', B', R', e1', e2', hsl', _⟩ := at_.at_ s1 F1 σ A1 g1
  obtain ⟨a', vs', rfl, e4', r', _⟩ := os.opn hsl'
  rw [e1] at e1'
  cases e1'
  subst e4'
  unfold mIx at w
  cases e : atI (get s1) y with
  | none => rw [e] at w; exact w.elim
  | some z =>
    obtain ⟨u', h1, h2⟩ := r'.atI e
    rw [e] at w
    have hl : H1 a = some (.lst vs') := (x1.holds.ow (a, .lst vs') (by rw [e2']; simp)).2
    exact ⟨a, vs', y, u', rfl, r1, SqL.of hl, h1, w u' F1 H1 [] A1 ⟨rfl, h2⟩ g1 x1 q1⟩
/-- t[0], t[1] of a pair -/
theorem o2_p0 {K : PySem.W.Frag} {T : Ty α} {U : Ty β} : Op1 (fun v H Q => rIxT K v (.int 0) H Q) (tP2 T U) (fun x => .ok x.1) (fz T) := fun F H v x Q ⟨a, v1, v2, ev, q, r1, r2⟩ s h _ _ =>
  ⟨a, _, 0, v1, ev, rfl, SqT.of (s _ _ q), rfl, h _ rfl v1 F H [] ⟨rfl, r1⟩ (Ext.refl (holds_nil s))⟩
theorem o2_p1 {K : PySem.W.Frag} {T : Ty α} {U : Ty β} : Op1 (fun v H Q => rIxT K v (.int 1) H Q) (tP2 T U) (fun x => .ok x.2) (fz U) := fun F H v x Q ⟨a, v1, v2, ev, q, r1, r2⟩ s h _ _ =>
  ⟨a, _, 1, v2, ev, rfl, SqT.of (s _ _ q), rfl, h _ rfl v2 F H [] ⟨rfl, r2⟩ (Ext.refl (holds_nil s))⟩
theorem em_p0 {T : Ty α} {U : Ty β} {fa : S → Res ((α × β) × S)} {j : Nat} {pp : Pos} (ha : EM XR W X p G a (fz (tP2 T U)) fa) : EM XR W X p G (.Subscript a (.Constant (.int 0) j pp) pos) (fz T) (fun s => (fa s).bind fun r => .ok (r.1.1, r.2)) :=
  em_op1 (r := fun v H Q => rIxT X.K v (.int 0) H Q) (fun _ u => pe_ix ix_tup u pe_int (fun _ _ => rfl)) o2_p0 (fun _ _ => okne) ha
theorem em_p1 {T : Ty α} {U : Ty β} {fa : S → Res ((α × β) × S)} {j : Nat} {pp : Pos} (ha : EM XR W X p G a (fz (tP2 T U)) fa) : EM XR W X p G (.Subscript a (.Constant (.int 1) j pp) pos) (fz U) (fun s => (fa s).bind fun r => .ok (r.1.2, r.2)) :=
  em_op1 (r := fun v H Q => rIxT X.K v (.int 1) H Q) (fun _ u => pe_ix ix_tup u pe_int (fun _ _ => rfl)) o2_p1 (fun _ _ => okne) ha
section
variable {T : Ty α} {U : Ty β} {V' : Ty γ} {fa : S → Res ((α × β × γ) × S)} {j : Nat} {pp : Pos} (ha : EM XR W X p G a (fz (tP3 T U V')) fa)
include ha
theorem em_t0 : EM XR W X p G (.Subscript a (.Constant (.int 0) j pp) pos) (fz T) (fun s => (fa s).bind fun r => .ok (r.1.1, r.2)) :=
  em_op1 (T := tP3 T U V') (r := fun v H Q => rIxT X.K v (.int 0) H Q) (g := fun x => .ok x.1) (fun _ u => pe_ix ix_tup u pe_int (fun _ _ => rfl)) (fun F H v x Q ⟨a, v1, v2, v3, ev, q, r1, r2, r3⟩ s h _ _ => ⟨a, _, 0, v1, ev, rfl, SqT.of (s _ _ q), rfl, h _ rfl v1 F H [] ⟨rfl, r1⟩ (Ext.refl (holds_nil s))⟩) (fun _ _ => okne) ha
theorem em_t1 : EM XR W X p G (.Subscript a (.Constant (.int 1) j pp) pos) (fz U) (fun s => (fa s).bind fun r => .ok (r.1.2.1, r.2)) :=
  em_op1 (T := tP3 T U V') (r := fun v H Q => rIxT X.K v (.int 1) H Q) (g := fun x => .ok x.2.1) (fun _ u => pe_ix ix_tup u pe_int (fun _ _ => rfl)) (fun F H v x Q ⟨a, v1, v2, v3, ev, q, r1, r2, r3⟩ s h _ _ => ⟨a, _, 1, v2, ev, rfl, SqT.of (s _ _ q), rfl, h _ rfl v2 F H [] ⟨rfl, r2⟩ (Ext.refl (holds_nil s))⟩) (fun _ _ => okne) ha
theorem em_t2 : EM XR W X p G (.Subscript a (.Constant (.int 2) j pp) pos) (fz V') (fun s => (fa s).bind fun r => .ok (r.1.2.2, r.2)) :=
  em_op1 (T := tP3 T U V') (r := fun v H Q => rIxT X.K v (.int 2) H Q) (g := fun x => .ok x.2.2) (fun _ u => pe_ix ix_tup u pe_int (fun _ _ => rfl)) (fun F H v x Q ⟨a, v1, v2, v3, ev, q, r1, r2, r3⟩ s h _ _ => ⟨a, _, 2, v3, ev, rfl, SqT.of (s _ _ q), rfl, h _ rfl v3 F H [] ⟨rfl, r3⟩ (Ext.refl (holds_nil s))⟩) (fun _ _ => okne) ha
end

/-! ### len, list(), tuple(), int() -/
theorem o1_len {K : PySem.W.Frag} {T : Ty α} : Op1 (fun v H Q => (fun (xs : List V) (H : Hp) (Q : VK) => ∃ p ys, xs = [.ref p] ∧ (SqL K H p ys ∨ SqT K H p ys) ∧ Q (.int ys.length) H) [v] H Q) (tLst T) (fun x => .ok (x.length : Int)) (fz tInt) := fun F H v x Q ⟨a, vs, ev, q, r⟩ s h _ _ => by
  subst ev
  exact ⟨a, vs, rfl, .inl (SqL.of (s _ _ q)), h _ rfl _ F H [] ⟨rfl, by rw [r.length]; rfl⟩ (Ext.refl (holds_nil s))⟩
theorem o1_lenT {K : PySem.W.Frag} {T : Ty α} : Op1 (fun v H Q => (fun (xs : List V) (H : Hp) (Q : VK) => ∃ p ys, xs = [.ref p] ∧ (SqL K H p ys ∨ SqT K H p ys) ∧ Q (.int ys.length) H) [v] H Q) (tTup T) (fun x => .ok (x.length : Int)) (fz tInt) := fun F H v x Q ⟨a, vs, ev, q, r⟩ s h _ _ => by
  subst ev
  exact ⟨a, vs, rfl, .inr (SqT.of (s _ _ q)), h _ rfl _ F H [] ⟨rfl, by rw [r.length]; rfl⟩ (Ext.refl (holds_nil s))⟩
section
variable {T : Ty α} {fa : S → Res (List α × S)} {pp : Pos}
theorem em_len (hg : Gl X "len") (hm : X.mg "len" = none) (ha : EM XR W X p G a (fz (tLst T)) fa) (hs : starEach [a] X.env = [(false, eval a X.env)] := by rfl) : EM XR W X p G (.Call (.Name "len" pp) [a] [] pos) (fz tInt) (fun s => (fa s).bind fun r1 => .ok ((r1.1.length : Int), r1.2)) :=
  em_callB call_len_seq hg hm PySem.boot_len o1_len (fun _ _ => okne) ha hs
theorem em_lenT (hg : Gl X "len") (hm : X.mg "len" = none) (ha : EM XR W X p G a (fz (tTup T)) fa) (hs : starEach [a] X.env = [(false, eval a X.env)] := by rfl) : EM XR W X p G (.Call (.Name "len" pp) [a] [] pos) (fz tInt) (fun s => (fa s).bind fun r1 => .ok ((r1.1.length : Int), r1.2)) :=
  em_callB call_len_seq hg hm PySem.boot_len o1_lenT (fun _ _ => okne) ha hs
end
/-- a built-in of an owned list that stands in a slot: the list is read where it stands -/
theorem em_callO {P : Prop} {T : Ty α} {i : Nat} {x y : Str} {get : S → List α} {put : S → List α → S} {pp pq : Pos} {R : Rl γ} {g : List α → Res γ} {te : List V → Hp → VK → Prop} (hN : X.N[i]? = some x) (hv : Vis X.env.scope x) {sl : Sl (List α)} [os : OL T sl] (at_ : At G i sl get sl G put)
    (mk : ∀ tn, PE X (.Name x pq) tn → PE X (.Call (.Name y pp) [.Name x pq] [] pos) (tCB te (tCons tn tNil)))
    (ho : ∀ F H a vs xs (Q : VK), All2 (T.R F) vs xs → H a = some (.lst vs) → Same F H → (∀ z, g xs = .ok z → ∀ w F' H' B, R.P F' w z B → Ext F H [] F' H' B → Q w H') → g xs ≠ .bad → (∀ ex, g xs ≠ .er ex) → te [.ref a] H Q) (ne : ∀ xs ex, g xs ≠ .er ex)
    (hd : (x == ("__debug__" : Str)) = false := by decide) (hcd : (x == ("__classdict__" : Str)) = false := by decide) :
    EM XR W X true G (.Call (.Name y pp) [.Name x pq] [] pos) R (fun s => (g (get s)).bind fun z => .ok (z, s)) := by
  refine ⟨_, mk _ (pe_var hN hv hd hcd), fun s F σ H A Q gg k w => ?_⟩
  obtain ⟨o, L, B, R', e1, e2, hsl, _⟩ := at_.at_ s F σ A gg
  obtain ⟨a, vs, rfl, e4, r, _⟩ := os.opn hsl
  subst e4
  have hl : H a = some (.lst vs) := (k.ow (a, .lst vs) (by rw [e2]; simp)).2
  refine ⟨.ref a, e1, ho F H a vs (get s) Q r hl k.fz (fun z ez w' F' H' B' hr ex => ?_) (fun q => ?_) (ne _)⟩
  · dsimp only at w; rw [ez] at w
    exact w w' F' H' B' A hr (G.mono gg ex.fz) (ext_nil k ex) fun _ => ⟨rfl, rfl⟩
  · dsimp only at w; rw [q] at w; exact w
theorem em_lenO {T : Ty α} {i : Nat} {x : Str} {get : S → List α} {put : S → List α → S} {pp pq : Pos} (hg : Gl X "len") (hm : X.mg "len" = none) (hN : X.N[i]? = some x) (hv : Vis X.env.scope x) {sl : Sl (List α)} [os : OL T sl] (at_ : At G i sl get sl G put)
    (hd : (x == ("__debug__" : Str)) = false := by decide) (hcd : (x == ("__classdict__" : Str)) = false := by decide) : EM XR W X true G (.Call (.Name "len" pp) [.Name x pq] [] pos) (fz tInt) (fun s => .ok (((get s).length : Int), s)) :=
  em_callO (P := True) (g := fun xs => .ok (xs.length : Int)) hN hv at_ (fun tn h => pe_callB call_len_seq hg hm PySem.boot_len (pa_cons h pa_nil)) (fun F H a vs xs Q r hl s h _ _ => ⟨a, vs, rfl, .inl (SqL.of hl), h _ rfl _ F H [] ⟨rfl, by rw [r.length]; rfl⟩ (Ext.refl (holds_nil s))⟩) (fun _ _ => okne) hd hcd
/-- list(..) and tuple(..) -/
theorem lay_list {F H : Hp} {T : Ty α} {vs : List V} {xs : List α} {l : Addr} {Q : VK} (r : All2 (T.R F) vs xs) (s : Same F H) (n : H l = none) (h : ∀ w F' H' B, (oL T).P F' w xs B → Ext F H [] F' H' B → Q w H') : Q (.ref l) (upd H l (.lst vs)) :=
  h _ F _ [(l, .lst vs)] ⟨l, vs, rfl, rfl, r⟩ (Ext.newO (holds_nil s) n)
theorem lay_tup {F H : Hp} {T : Ty α} {vs : List V} {xs : List α} {l : Addr} {Q : VK} (r : All2 (T.R F) vs xs) (s : Same F H) (n : H l = none) (h : ∀ w F' H' B, (fz (tTup T)).P F' w xs B → Ext F H [] F' H' B → Q w H') : Q (.ref l) (upd H l (.tup vs)) := by
  have ex : Ext F H [] (upd F l (.tup vs)) (upd H l (.tup vs)) [] := Ext.newF (holds_nil s) n
  exact h _ _ _ [] ⟨rfl, l, vs, rfl, upd_same, T.all r ex.fz⟩ ex
section
variable {T : Ty α} {fa : S → Res (List α × S)} {pp : Pos}
theorem em_listL (hg : Gl X "list") (hm : X.mg "list" = none) (ha : EM XR W X p G a (fz (tLst T)) fa) (hs : starEach [a] X.env = [(false, eval a X.env)] := by rfl) : EM XR W X p G (.Call (.Name "list" pp) [a] [] pos) (oL T) (fun s => (fa s).bind fun r1 => (Res.ok r1.1).bind fun z => .ok (z, r1.2)) :=
  em_callTy (T := tLst T) (g := fun x => .ok x) call_list_of hg hm (by decide +kernel) (fun F H v x Q ⟨a, vs, ev, q, r⟩ s h _ _ => ⟨a, vs, by rw [ev], .inl (SqL.of (s _ _ q)), fun l n => lay_list r s n (h x rfl)⟩) (fun _ _ => okne) ha hs
theorem em_listT (hg : Gl X "list") (hm : X.mg "list" = none) (ha : EM XR W X p G a (fz (tTup T)) fa) (hs : starEach [a] X.env = [(false, eval a X.env)] := by rfl) : EM XR W X p G (.Call (.Name "list" pp) [a] [] pos) (oL T) (fun s => (fa s).bind fun r1 => (Res.ok r1.1).bind fun z => .ok (z, r1.2)) :=
  em_callTy (T := tTup T) (g := fun x => .ok x) call_list_of hg hm (by decide +kernel) (fun F H v x Q ⟨a, vs, ev, q, r⟩ s h _ _ => ⟨a, vs, by rw [ev], .inr (SqT.of (s _ _ q)), fun l n => lay_list r s n (h x rfl)⟩) (fun _ _ => okne) ha hs
theorem em_tupL (hg : Gl X "tuple") (hm : X.mg "tuple" = none) (ha : EM XR W X p G a (fz (tLst T)) fa) (hs : starEach [a] X.env = [(false, eval a X.env)] := by rfl) : EM XR W X p G (.Call (.Name "tuple" pp) [a] [] pos) (fz (tTup T)) (fun s => (fa s).bind fun r1 => (Res.ok r1.1).bind fun z => .ok (z, r1.2)) :=
  em_callTy (T := tLst T) (g := fun x => .ok x) call_tuple_of hg hm (by decide +kernel) (fun F H v x Q ⟨a, vs, ev, q, r⟩ s h _ _ => ⟨a, vs, by rw [ev], .inl ⟨SqL.of (s _ _ q), fun l n => lay_tup r s n (h x rfl)⟩⟩) (fun _ _ => okne) ha hs
theorem em_tupT (hg : Gl X "tuple") (hm : X.mg "tuple" = none) (ha : EM XR W X p G a (fz (tTup T)) fa) (hs : starEach [a] X.env = [(false, eval a X.env)] := by rfl) : EM XR W X p G (.Call (.Name "tuple" pp) [a] [] pos) (fz (tTup T)) (fun s => (fa s).bind fun r1 => (Res.ok r1.1).bind fun z => .ok (z, r1.2)) :=
  em_callTy (T := tTup T) (g := fun x => .ok x) call_tuple_of hg hm (by decide +kernel) (fun F H v x Q ⟨a, vs, ev, q, r⟩ s h _ _ => ⟨a, vs, by rw [ev], .inr ⟨SqT.of (s _ _ q), h x rfl _ F H [] ⟨rfl, a, vs, rfl, q, r⟩ (Ext.refl (holds_nil s))⟩⟩) (fun _ _ => okne) ha hs
end
theorem em_listS {T : Ty α} {fa : S → Res (List α × S)} {pp : Pos} (hg : Gl X "list") (hm : X.mg "list" = none) (ha : EM XR W X p G a (fz (tScr X.K T)) fa) (hs : starEach [a] X.env = [(false, eval a X.env)] := by rfl) : EM XR W X p G (.Call (.Name "list" pp) [a] [] pos) (oL T) (fun s => (fa s).bind fun r1 => (Res.ok r1.1).bind fun z => .ok (z, r1.2)) :=
  em_callTy (T := tScr X.K T) (g := fun x => .ok x) call_list_of hg hm (by decide +kernel) (fun F H v x Q ⟨a, vs, ev, q, r⟩ s h _ _ => ⟨a, vs, by rw [ev], .inl (s.seq q), fun l n => lay_list r s n (h x rfl)⟩) (fun _ _ => okne) ha hs
theorem em_tupO {T : Ty α} {i : Nat} {x : Str} {get : S → List α} {put : S → List α → S} {pp pq : Pos} (hg : Gl X "tuple") (hm : X.mg "tuple" = none) (hN : X.N[i]? = some x) (hv : Vis X.env.scope x) {sl : Sl (List α)} [os : OL T sl] (at_ : At G i sl get sl G put)
    (hd : (x == ("__debug__" : Str)) = false := by decide) (hcd : (x == ("__classdict__" : Str)) = false := by decide) : EM XR W X true G (.Call (.Name "tuple" pp) [.Name x pq] [] pos) (fz (tTup T)) (fun s => .ok (get s, s)) :=
  em_callO (P := True) (g := fun xs => .ok xs) hN hv at_ (fun tn h => pe_callTy call_tuple_of hg hm (by decide +kernel) (pa_cons h pa_nil)) (fun F H a vs xs Q r hl s h _ _ => ⟨a, vs, rfl, .inl ⟨SqL.of hl, fun l n => lay_tup r s n (h xs rfl)⟩⟩) (fun _ _ => okne) hd hcd
theorem em_listO {T : Ty α} {i : Nat} {x : Str} {get : S → List α} {put : S → List α → S} {pp pq : Pos} (hg : Gl X "list") (hm : X.mg "list" = none) (hN : X.N[i]? = some x) (hv : Vis X.env.scope x) {sl : Sl (List α)} [os : OL T sl] (at_ : At G i sl get sl G put)
    (hd : (x == ("__debug__" : Str)) = false := by decide) (hcd : (x == ("__classdict__" : Str)) = false := by decide) : EM XR W X true G (.Call (.Name "list" pp) [.Name x pq] [] pos) (oL T) (fun s => .ok (get s, s)) :=
  em_callO (P := True) (g := fun xs => .ok xs) hN hv at_ (fun tn h => pe_callTy call_list_of hg hm (by decide +kernel) (pa_cons h pa_nil)) (fun F H a vs xs Q r hl s h _ _ => ⟨a, vs, rfl, .inl (SqL.of hl), fun l n => lay_list r s n (h xs rfl)⟩) (fun _ _ => okne) hd hcd
/-- int(n) -/
theorem em_intI {fa : S → Res (Int × S)} {pp : Pos} (hg : Gl X "int") (hm : X.mg "int" = none) (ha : EM XR W X p G a (fz tInt) fa) (hs : starEach [a] X.env = [(false, eval a X.env)] := by rfl) : EM XR W X p G (.Call (.Name "int" pp) [a] [] pos) (fz tInt) (fun s => (fa s).bind fun r1 => (Res.ok r1.1).bind fun z => .ok (z, r1.2)) :=
  em_callTy call_int1 hg hm (by decide +kernel) (fun F H v x Q ev s h _ _ => .inl ⟨x, by rw [show v = .int x from ev], h x rfl _ F H [] ⟨rfl, rfl⟩ (Ext.refl (holds_nil s))⟩) (fun _ _ => okne) ha hs

/-! ### argument lists, displays -/
theorem am_nil : AM XR W X true G [] anil (fun s => .ok ((), s)) := ⟨_, pa_nil, fun s F σ H A Q g k h => h _ F H [] A ⟨rfl, rfl⟩ g (Ext.refl k) fun _ => ⟨rfl, rfl⟩⟩
theorem am_cons {P : Type} {R : Rl α} {Z : RA P} {f : S → Res (α × S)} {g : S → Res (P × S)} (ha : EM XR W X p1 G e R f) (hz : AM XR W X p2 G es Z g) (hs : starEach (e :: es) X.env = (false, eval e X.env) :: starEach es X.env := by rfl) :
    AM XR W X (p1 && p2) G (e :: es) (acons R Z) (fun s => (f s).bind fun r1 => (g r1.2).bind fun r2 => .ok ((r1.1, r2.1), r2.2)) := by
  obtain ⟨t, ht, h⟩ := ha
  obtain ⟨u, hu, h'⟩ := hz
  refine ⟨_, pa_cons ht hu hs, fun s F σ H A Q gg k w => h s F σ H A _ gg k (WPE.bindA w fun x s1 v F1 H1 B A1 r1 g1 e1 q1 w => ?_)⟩
  have hB : Holds F1 H1 (A1 ++ B) := e1.holds.perm List.perm_append_comm
  refine h' s1 F1 σ H1 A1 _ g1 (hB.sub (List.sublist_append_left _ _)) ?_
  cases q : g s1 with
  | bad => rw [q] at w; exact w
  | er ex => rw [q] at w; exact fun cls oe F' H' A' h1 h2 => w cls oe F' H' A' h1 ((e1.sub (List.sublist_append_right _ _)).trans h2)
  | ok ys =>
    obtain ⟨y, s2⟩ := ys
    rw [q] at w
    intro vs F2 H2 B2 A2 r2 g2 e2 q2
    have e3 : Ext F1 H1 (B ++ A1) F2 H2 ((B ++ B2) ++ A2) := by
      have z := Ext.frame hB e2
      refine (z.permL List.perm_append_comm).perm ?_
      rw [List.append_assoc B B2 A2]
      exact List.perm_append_comm
    exact w (v :: vs) F2 H2 (B ++ B2) A2 ⟨v, vs, B, B2, rfl, rfl, R.mono r1 e2.fz, r2⟩ g2 (e1.trans e3) fun hp => by
      simp only [Bool.and_eq_true] at hp
      exact ⟨(q2 hp.2).1.trans (q1 hp.1).1, (q2 hp.2).2.trans (q1 hp.1).2⟩
theorem am_hnil {T : Ty α} : AM XR W X true G [] (aall T) (fun s => .ok ([], s)) := ⟨_, pa_nil, fun s F σ H A Q g k h => h _ F H [] A ⟨rfl, trivial⟩ g (Ext.refl k) fun _ => ⟨rfl, rfl⟩⟩
theorem am_hcons {T : Ty α} {f : S → Res (α × S)} {g : S → Res (List α × S)} (ha : EM XR W X p1 G e (fz T) f) (hz : AM XR W X p2 G es (aall T) g) (hs : starEach (e :: es) X.env = (false, eval e X.env) :: starEach es X.env := by rfl) :
    AM XR W X (p1 && p2) G (e :: es) (aall T) (fun s => (f s).bind fun r1 => (g r1.2).bind fun r2 => .ok (r1.1 :: r2.1, r2.2)) := by
  obtain ⟨t, ht, h⟩ := ha
  obtain ⟨u, hu, h'⟩ := hz
  refine ⟨_, pa_cons ht hu hs, fun s F σ H A Q gg k w => h s F σ H A _ gg k (WPE.bindA w fun x s1 v F1 H1 B A1 ⟨rB, r1⟩ g1 e1 q1 w => ?_)⟩
  subst rB
  refine h' s1 F1 σ H1 A1 _ g1 e1.holds ?_
  cases q : g s1 with
  | bad => rw [q] at w; exact w
  | er ex => rw [q] at w; exact fun cls oe F' H' A' h1 h2 => w cls oe F' H' A' h1 (e1.trans h2)
  | ok ys =>
    obtain ⟨y, s2⟩ := ys
    rw [q] at w
    rintro vs F2 H2 B2 A2 ⟨rB, r2⟩ g2 e2 q2
    subst rB
    exact w (v :: vs) F2 H2 [] A2 ⟨rfl, T.mono r1 e2.fz, r2⟩ g2 (e1.trans e2) fun hp => by
      simp only [Bool.and_eq_true] at hp
      exact ⟨(q2 hp.2).1.trans (q1 hp.1).1, (q2 hp.2).2.trans (q1 hp.1).2⟩
/-- a written list, a written tuple of one kind -/
theorem em_lst {T : Ty α} {f : S → Res (List α × S)} (h : AM XR W X p G es (aall T) f) (hl : ∀ s xs s', f s = .ok (xs, s') → xs.length ≤ sizeLine) : EM XR W X p G (.List es pos) (oL T) f := by
  obtain ⟨t, ht, h⟩ := h
  refine ⟨_, pe_lst ht, fun s F σ H A Q g k w => h s F σ H A _ g k ?_⟩
  cases q : f s with
  | bad => rw [q] at w; exact w
  | er ex => rw [q] at w; exact w
  | ok xs =>
    obtain ⟨x, s1⟩ := xs
    rw [q] at w
    rintro vs F1 H1 B A1 ⟨rB, r1⟩ g1 e1 q1
    subst rB
    refine ⟨by rw [r1.length]; exact hl s x s1 q, fun l n => ?_⟩
    exact w _ F1 _ [(l, .lst vs)] A1 ⟨l, vs, rfl, rfl, r1⟩ g1 (e1.trans (Ext.newO e1.holds n)) q1
theorem em_tupA {T : Ty α} {f : S → Res (List α × S)} {k' : Nat} (h : AM XR W X p G es (aall T) f) (hl : ∀ s xs s', f s = .ok (xs, s') → xs.length ≤ sizeLine) : EM XR W X p G (.Tuple es k' pos) (fz (tTup T)) f := by
  obtain ⟨t, ht, h⟩ := h
  refine ⟨_, pe_tup ht, fun s F σ H A Q g k w => h s F σ H A _ g k ?_⟩
  cases q : f s with
  | bad => rw [q] at w; exact w
  | er ex => rw [q] at w; exact w
  | ok xs =>
    obtain ⟨x, s1⟩ := xs
    rw [q] at w
    rintro vs F1 H1 B A1 ⟨rB, r1⟩ g1 e1 q1
    subst rB
    refine ⟨by rw [r1.length]; exact hl s x s1 q, fun l n => ?_⟩
    have ex : Ext F1 H1 A1 (upd F1 l (.tup vs)) (upd H1 l (.tup vs)) A1 := Ext.newF e1.holds n
    exact w _ _ _ [] A1 ⟨rfl, l, vs, rfl, upd_same, T.all r1 ex.fz⟩ (G.mono g1 ex.fz) (e1.trans ex) q1
theorem em_tup2 {T : Ty α} {U : Ty β} {f : S → Res ((α × β × Unit) × S)} {k' : Nat} (h : AM XR W X p G es (acons (fz T) (acons (fz U) anil)) f) : EM XR W X p G (.Tuple es k' pos) (fz (tP2 T U)) (fun s => (f s).bind fun r => .ok ((r.1.1, r.1.2.1), r.2)) := by
  obtain ⟨t, ht, h⟩ := h
  refine ⟨_, pe_tup ht, fun s F σ H A Q g k w => h s F σ H A _ g k (WPA.bindE w fun x s1 v F1 H1 B A1 r1 g1 e1 q1 w => ?_)⟩
  obtain ⟨v1, r, B1, C, rfl, rfl, ⟨rB, r1⟩, v2, r', B2, C2, rfl, rfl, ⟨rB2, r2⟩, rfl, rfl⟩ := r1
  subst rB rB2
  refine ⟨by show 2 ≤ sizeLine; decide, fun l n => ?_⟩
  have ex : Ext F1 H1 A1 (upd F1 l (.tup [v1, v2])) (upd H1 l (.tup [v1, v2])) A1 := Ext.newF e1.holds n
  exact w _ _ _ [] A1 ⟨rfl, l, v1, v2, rfl, upd_same, T.mono r1 ex.fz, U.mono r2 ex.fz⟩ (G.mono g1 ex.fz) (e1.trans ex) q1
theorem em_tup3 {T : Ty α} {U : Ty β} {V' : Ty γ} {f : S → Res ((α × β × γ × Unit) × S)} {k' : Nat} (h : AM XR W X p G es (acons (fz T) (acons (fz U) (acons (fz V') anil))) f) : EM XR W X p G (.Tuple es k' pos) (fz (tP3 T U V')) (fun s => (f s).bind fun r => .ok ((r.1.1, r.1.2.1, r.1.2.2.1), r.2)) := by
  obtain ⟨t, ht, h⟩ := h
  refine ⟨_, pe_tup ht, fun s F σ H A Q g k w => h s F σ H A _ g k (WPA.bindE w fun x s1 v F1 H1 B A1 r1 g1 e1 q1 w => ?_)⟩
  obtain ⟨v1, r, B1, C, rfl, rfl, ⟨rB, r1⟩, v2, r', B2, C2, rfl, rfl, ⟨rB2, r2⟩, v3, r'', B3, C3, rfl, rfl, ⟨rB3, r3⟩, rfl, rfl⟩ := r1
  subst rB rB2 rB3
  refine ⟨by show 3 ≤ sizeLine; decide, fun l n => ?_⟩
  have ex : Ext F1 H1 A1 (upd F1 l (.tup [v1, v2, v3])) (upd H1 l (.tup [v1, v2, v3])) A1 := Ext.newF e1.holds n
  exact w _ _ _ [] A1 ⟨rfl, l, v1, v2, v3, rfl, upd_same, T.mono r1 ex.fz, U.mono r2 ex.fz, V'.mono r3 ex.fz⟩ (G.mono g1 ex.fz) (e1.trans ex) q1

/-! ### calls of defs -/
/-- a def's promise: its mirror m; i names what it owns of the caller's -/
def WPF {ρ : Type} (XR : XRel) (R : Rl ρ) (F H : Hp) (A : Ow) (Q : VK) (E : XK) : Res ρ → Prop
  | .ok r => ∀ v F' H' A', R.P F' v r A' → Ext F H A F' H' A' → Q v H'
  | .er ex => ∀ cls oe F' H' A', XR ex cls oe H' → Ext F H A F' H' A' → E cls oe H'
  | .bad => False
def spF {ι P ρ : Type} (XR : XRel) (Z : ι → RA P) (R : ι → Rl ρ) (m : P → Res ρ) : Sp := fun vs H Q E => ∃ i x F A, (Z i).P F vs x A ∧ Holds F H A ∧ WPF XR (R i) F H A Q E (m x)
/-- .. where it owns nothing of the caller's -/
abbrev spP {P ρ : Type} (XR : XRel) (Z : RA P) (R : Rl ρ) (m : P → Res ρ) : Sp := spF XR (fun _ : Unit => Z) (fun _ => R) m
/-- what a def hands back beside the list that it was lent -/
def rLent {ρ α : Type} (R : Rl ρ) (a : Addr) (T : Ty α) : Rl (ρ × List α) := ⟨fun F v x A => ∃ B vs, A = B ++ [(a, .lst vs)] ∧ R.P F v x.1 B ∧ All2 (T.R F) vs x.2, fun ⟨B, vs, e, r, q⟩ s => ⟨B, vs, e, R.mono r s, T.all q s⟩⟩
/-- .. lent at its first argument -/
abbrev spL {P ρ α : Type} (XR : XRel) (T : Ty α) (Z : RA P) (R : Rl ρ) (m : List α × P → Res (ρ × List α)) : Sp := spF XR (fun a : Addr => acons (oLa a T) Z) (fun a => rLent R a T) m
section
variable {k : Nat} {f : Addr} {fd : FuncData} {ps : List Str} {x : Str} {pp : Pos} {P : Type} {Z : RA P} {R : Rl ρ} {m : P → Res ρ} {fargs : S → Res (P × S)}
theorem em_call (tk : Takes X W) (Fk : FnOk X.prog X.w X.K X.mg X.base (L2.CX X.prog X.w) k f fd ps (spP XR Z R m)) (hr : Room k X.A) (hg : Gl X x) (hm : X.mg x = some (.ref f)) (hk : PySem.W.keepIn X.K (.ref f) = true) (hb : Binds X.K fd ps [])
    (ha : AM XR W X p G (e :: es) Z fargs) (hdb : (x == ("__debug__" : Str)) = false := by decide) (he : starEach (e :: es) X.env = (false, eval e X.env) :: starEach es X.env := by rfl) (hpl : (backTo pos (starEach es X.env)).any (·.1) = false := by rfl) :
    EM XR W X p G (.Call (.Name x pp) (e :: es) [] pos) R (fun s => (fargs s).bind fun r1 => (m r1.1).bind fun z => .ok (z, r1.2)) := by
  obtain ⟨t, ht, h⟩ := ha
  refine ⟨_, pe_callS Fk hr hg hm hk hb (fun σ => passAt tk σ) ht hdb he hpl, fun s F σ H A Q g kk w => h s F σ H A _ g kk (WPA.bindE w fun y s1 v F1 H1 B A1 r1 g1 e1 q1 w => ?_)⟩
  refine ⟨(), y, F1, B, r1, e1.holds.sub (List.sublist_append_left _ _), ?_⟩
  cases q : m y with
  | bad => rw [q] at w; exact w.elim
  | er ex => 
    rw [q] at w
    exact fun cls oe F' H' A' h1 h2 => w cls oe F' H' (A' ++ A1) h1 (e1.trans (Ext.frame e1.holds h2))
  | ok z =>
    rw [q] at w
    exact fun v F' H' A' h1 h2 => w v F' H' A' A1 h1 (G.mono g1 h2.fz) (e1.trans (Ext.frame e1.holds h2)) q1
/-- the first argument is a list that stands in a slot and comes back changed -/
theorem em_callL {T : Ty α} {i : Nat} {y : Str} {py : Pos} {get : S → List α} {put : S → List α → S} {m : List α × P → Res (ρ × List α)} (tk : Takes X W) (Fk : FnOk X.prog X.w X.K X.mg X.base (L2.CX X.prog X.w) k f fd ps (spL XR T Z R m)) (hr : Room k X.A) (hg : Gl X x) (hm : X.mg x = some (.ref f)) (hk : PySem.W.keepIn X.K (.ref f) = true) (hb : Binds X.K fd ps [])
    (hN : X.N[i]? = some y) (hv : Vis X.env.scope y) {sl : Sl (List α)} [os : OL T sl] (at_ : At G i sl get sl G put)
    (ha : AM XR W X p G es Z fargs) (hdb : (x == ("__debug__" : Str)) = false := by decide) (he : starEach (.Name y py :: es) X.env = (false, eval (.Name y py) X.env) :: starEach es X.env := by rfl) (hpl : (backTo pos (starEach es X.env)).any (·.1) = false := by rfl)
    (hd : (y == ("__debug__" : Str)) = false := by decide) (hcd : (y == ("__classdict__" : Str)) = false := by decide) :
    EM XR W X false G (.Call (.Name x pp) (.Name y py :: es) [] pos) R (fun s => (fargs s).bind fun r1 => (m (get r1.2, r1.1)).bind fun z => .ok (z.1, put r1.2 z.2)) := by
  obtain ⟨t, ht, h⟩ := ha
  refine ⟨_, pe_callS Fk hr hg hm hk hb (fun σ => passAt tk σ) (pa_cons (pe_var hN hv hd hcd) ht he) hdb he hpl, fun s F σ H A Q g kk w => ?_⟩
  obtain ⟨o, L, B, R', e1, e2, hsl, _⟩ := at_.at_ s F σ A g
  obtain ⟨a, vs, rfl, e4, r, _⟩ := os.opn hsl
  refine ⟨.ref a, e1, h s F σ H A _ g kk (WPA.bindE w fun y s1 us F1 H1 B1 A1 r1 g1 x1 q1 w => ?_)⟩
  obtain ⟨o', L', B', R2, e1', e2', hsl', st⟩ := at_.at_ s1 F1 σ A1 g1
  obtain ⟨a', vs', rfl, e4', r', cl⟩ := os.opn hsl'
  rw [e1] at e1'
  cases e1'
  subst e4'
  -- the callee owns B1 and the list
  have perm1 : (B1 ++ A1).Perm (((a, HO.lst vs') :: B1) ++ (L' ++ R2)) := by
    rw [e2']
    refine (List.Perm.append_left B1 (perm_mid L' [(a, HO.lst vs')] R2)).trans ?_
    exact (List.perm_append_comm (l₁ := B1) (l₂ := [(a, HO.lst vs')])).append_right (L' ++ R2) |> fun z => by simpa using z
  have hh : Holds F1 H1 (((a, HO.lst vs') :: B1) ++ (L' ++ R2)) := x1.holds.perm perm1
  refine ⟨a, (get s1, y), F1, (a, .lst vs') :: B1, ⟨.ref a, us, [(a, .lst vs')], B1, rfl, rfl, ⟨vs', rfl, rfl, r'⟩, r1⟩, hh.sub (List.sublist_append_left _ _), ?_⟩
  cases q : m (get s1, y) with
  | bad => rw [q] at w; exact w.elim
  | er ex =>
    rw [q] at w
    exact fun cls oe F' H' A' h1 h2 => w cls oe F' H' (A' ++ (L' ++ R2)) h1 (x1.trans ((Ext.frame hh h2).permL perm1.symm))
  | ok z =>
    rw [q] at w
    obtain ⟨z, zs⟩ := z
    rintro v F' H' A' ⟨B3, vs3, rfl, h1, h1'⟩ h2
    have fr := (Ext.frame hh h2).permL perm1.symm
    have perm2 : ((B3 ++ [(a, HO.lst vs3)]) ++ (L' ++ R2)).Perm (B3 ++ (L' ++ ([(a, HO.lst vs3)] ++ R2))) := by
      rw [List.append_assoc]
      exact List.Perm.append_left B3 (perm_mid L' [(a, HO.lst vs3)] R2).symm
    have gg := st F' (some (.ref a)) zs [(a, .lst vs3)] h2.fz (cl F' vs3 zs h1')
    have es : σ.set i (some (V.ref a)) = σ := by
      apply List.ext_getElem?
      intro j
      by_cases hj : j = i
      · subst hj
        have hlt : j < σ.length := (List.getElem?_eq_some_iff.mp e1).1
        rw [List.getElem?_set_self hlt, e1]
      · rw [List.getElem?_set_ne (Ne.symm hj)]
    rw [es] at gg
    exact w v F' H' B3 _ h1 gg (x1.trans (fr.perm perm2)) (fun hp => by cases hp)
end
end
end TC
namespace TC
open PySem PySem.Spec PyProof.Rows L2

theorem set_same {σ : St} {i : Nat} {o : Option V} (e : σ[i]? = some o) : σ.set i o = σ := by
  apply List.ext_getElem?
  intro j
  by_cases hj : j = i
  · subst hj
    have hlt : j < σ.length := (List.getElem?_eq_some_iff.mp e).1
    rw [List.getElem?_set_self hlt, e]
  · rw [List.getElem?_set_ne (Ne.symm hj)]

theorem wipe_get (σ : St) : ∀ (vs : List Nat) (k : Nat), (wipe σ vs)[k]? = if k ∈ vs then (if k < σ.length then some none else none) else σ[k]?
  | [], k => by simp [wipe]
  | v :: vs, k => by
    unfold wipe
    by_cases hk : k = v
    · subst hk
      rw [if_pos List.mem_cons_self]
      by_cases hl : k < σ.length
      · rw [if_pos hl, List.getElem?_set_self (by rw [wipe_length]; exact hl)]
      · rw [if_neg hl]
        exact List.getElem?_eq_none_iff.mpr (by rw [List.length_set, wipe_length]; omega)
    · rw [List.getElem?_set_ne (Ne.symm hk), wipe_get σ vs k]
      by_cases hm : k ∈ vs
      · rw [if_pos hm, if_pos (List.mem_cons_of_mem _ hm)]
      · rw [if_neg hm, if_neg (fun z => (List.mem_cons.mp z).elim hk hm)]
theorem wipe_eq {σ σ' : St} {vs : List Nat} (hl : σ'.length = σ.length) (h : ∀ k, k ∉ vs → σ'[k]? = σ[k]?) : wipe σ' vs = wipe σ vs := by
  apply List.ext_getElem?
  intro k
  rw [wipe_get, wipe_get, hl]
  by_cases hm : k ∈ vs
  · rw [if_pos hm, if_pos hm]
  · rw [if_neg hm, if_neg hm, h k hm]

section
variable {XR : XRel} {W : WX} {X : Cx} {S S' S2 S3 L L1 ρ : Type} {G : Ctx S} {G' : Ctx S'} {G2 : Ctx S2} {G3 : Ctx S3} {Gb Gl : Ctx L} {G1 : Ctx L1} {α β γ ι : Type} {e a b c : Expr} {es : List Expr} {st : Stmt} {sts sts' : List Stmt} {pos : Pos} {p p1 p2 p3 : Bool} {Rr : Rl ρ}

theorem WPS.later {F H F1 H1 : Hp} {A A1 : Ow} {D : Ends} {r : Out S' L ρ} (h : WPS XR W Rr Gb G' F H A D r) (e : Ext F H A F1 H1 A1) : WPS XR W Rr Gb G' F1 H1 A1 D r := by
  cases r with
  | bad => exact h
  | er ex => exact fun cls oe F' H' σ' A' h1 h2 => h cls oe F' H' σ' A' h1 (e.trans h2)
  | nx s => exact fun F' σ' H' A' h1 h2 => h F' σ' H' A' h1 (e.trans h2)
  | rt r => exact fun v F' H' A' h1 h2 => h v F' H' A' h1 (e.trans h2)
  | bk s => exact fun F' σ' H' A' h1 h2 => h F' σ' H' A' h1 (e.trans h2)
  | ct s => exact fun F' σ' H' A' h1 h2 => h F' σ' H' A' h1 (e.trans h2)

/-! ### blocks -/
theorem ss_nil {m : S → S'} (mv : Mv G G' m) : SS XR W X Rr Gb G [] G' (fun s => .nx (m s)) := ⟨_, pss_nil, fun s F σ H A D g k w => by
  obtain ⟨F', A', g', e⟩ := mv.mv s F H σ A g k
  exact w F' σ H A' g' e⟩
theorem ss_cons {f : S → Out S' L ρ} {g : S' → Out S2 L ρ} (h1 : SM XR W X Rr Gb G st G' f) (h2 : SS XR W X Rr Gb G' sts G2 g) : SS XR W X Rr Gb G (st :: sts) G2 (fun s => (f s).seq g) := by
  obtain ⟨t, ht, h1⟩ := h1
  obtain ⟨u, hu, h2⟩ := h2
  refine ⟨_, pss_cons ht hu, fun s F σ H A D gg k w => h1 s F σ H A _ gg k ?_⟩
  dsimp only at w
  cases q : f s with
  | bad => rw [q] at w; exact w
  | er ex => rw [q] at w; exact w
  | rt r => rw [q] at w; exact w
  | bk r => rw [q] at w; exact w
  | ct r => rw [q] at w; exact w
  | nx s1 =>
    rw [q] at w
    intro F' σ' H' A' g' e
    exact h2 s1 F' σ' H' A' D g' e.holds (w.later e)
/-- ahead of a block the context is moved -/
theorem ss_mv {m : S → S'} {f : S' → Out S2 L ρ} (mv : Mv G G' m) (h : SS XR W X Rr Gb G' sts G2 f) : SS XR W X Rr Gb G sts G2 (fun s => f (m s)) := by
  obtain ⟨t, ht, h⟩ := h
  refine ⟨t, ht, fun s F σ H A D g k w => ?_⟩
  obtain ⟨F', A', g', e⟩ := mv.mv s F H σ A g k
  exact h (m s) F' σ H A' D g' e.holds (w.later e)
theorem sm_pass : SM XR W X Rr Gb G (.Pass pos) G (fun s => .nx s) := ⟨_, ps_pass, fun s F σ H A D g k w => w F σ H A g (Ext.refl k)⟩
theorem sm_doc {x : Str} {j : Nat} {pos' : Pos} : SM XR W X Rr Gb G (.Expr (.Constant (.str x) j pos) pos') G (fun s => .nx s) := ⟨_, ps_doc, fun s F σ H A D g k w => w F σ H A g (Ext.refl k)⟩
theorem sm_break {m : S → L} (mv : Mv G Gb m) : SM XR W X Rr Gb G (.Break pos) G' (fun s => .bk (m s)) := ⟨_, ps_break, fun s F σ H A D g k w => by
  obtain ⟨F', A', g', e⟩ := mv.mv s F H σ A g k
  exact w F' σ H A' g' e⟩
theorem sm_continue {m : S → L} (mv : Mv G Gb m) : SM XR W X Rr Gb G (.Continue pos) G' (fun s => .ct (m s)) := ⟨_, ps_continue, fun s F σ H A D g k w => by
  obtain ⟨F', A', g', e⟩ := mv.mv s F H σ A g k
  exact w F' σ H A' g' e⟩
/-- what a return hands on -/
structure Pack (G : Ctx S) (R : Rl α) (Rr : Rl ρ) (pack : α → S → ρ) : Prop where
  pk : ∀ s F σ A v x B, R.P F v x B → G.P s F σ A → ∃ A', A'.Sublist (B ++ A) ∧ Rr.P F v (pack x s) A'
theorem pk_plain {R : Rl α} : Pack G R R (fun x _ => x) := ⟨fun s F σ A v x B h g => ⟨B, List.sublist_append_left _ _, h⟩⟩
theorem pk_lent {R : Rl α} {T : Ty β} {i : Nat} {ad : Addr} {get : S → List β} {put : S → List β → S} (at_ : At G i (sR (oLa ad T)) get (sR (oLa ad T)) G put) : Pack G R (rLent R ad T) (fun x s => (x, get s)) := ⟨fun s F σ A v x B h g => by
  obtain ⟨o, L, B1, R1, e1, e2, ⟨v', e3, vs, e4, e5, r⟩, _⟩ := at_.at_ s F σ A g
  subst e2 e5
  refine ⟨B ++ [(ad, .lst vs)], List.Sublist.append (List.Sublist.refl _) ?_, B, vs, rfl, h, r⟩
  exact (List.sublist_append_left _ _).trans (List.sublist_append_right _ _)⟩
theorem sm_ret {R : Rl α} {f : S → Res (α × S)} {pack : α → S → ρ} (pk : Pack G R Rr pack) (h : EM XR W X p G e R f) : SM XR W X Rr Gb G (.Return (some e) pos) G' (fun s => (f s).out fun r => .rt (pack r.1 r.2)) := by
  obtain ⟨t, ht, h⟩ := h
  refine ⟨_, ps_ret ht, fun s F σ H A D g k w => h s F σ H A _ g k (WPE.bindS (p1 := p) w fun x s1 v F1 H1 B A1 r1 g1 e1 w => ?_)⟩
  obtain ⟨A', sb, r⟩ := pk.pk s1 F1 σ A1 v x B r1 g1
  exact w v F1 H1 A' r (e1.sub sb)
theorem sm_retN {x : α} {R : Rl α} {pack : α → S → ρ} (pk : Pack G R Rr pack) (hn : ∀ F, R.P F .non x []) : SM XR W X Rr Gb G (.Return none pos) G' (fun s => .rt (pack x s)) := by
  refine ⟨_, ps_retN, fun s F σ H A D g k w => ?_⟩
  obtain ⟨A', sb, r⟩ := pk.pk s F σ A .non x [] (hn F) g
  exact w .non F H A' r ((Ext.refl k).sub sb)
theorem sm_expr {R : Rl α} {f : S → Res (α × S)} (h : EM XR W X p G e R f) (hs : swapsWith e none pos.line X.env = pure false := by rfl) : SM XR W X Rr Gb G (.Expr e pos) G (fun s => (f s).out fun r => .nx r.2) := by
  obtain ⟨t, ht, h⟩ := h
  refine ⟨_, ps_expr ht hs, fun s F σ H A D g k w => h s F σ H A _ g k (WPE.bindS (p1 := p) w fun x s1 v F1 H1 B A1 r1 g1 e1 w => ?_)⟩
  exact w F1 σ H1 A1 g1 (e1.sub (List.sublist_append_right _ _))
theorem sm_if {f : S → Res (Bool × S)} {fa fb : S → Out S' L ρ} (hc : TM XR W X p G c f) (ha : SS XR W X Rr Gb G sts G' fa) (hb : SS XR W X Rr Gb G sts' G' fb) :
    SM XR W X Rr Gb G (.If c sts sts' pos) G' (fun s => (f s).out fun r => if r.1 then fa r.2 else fb r.2) := by
  obtain ⟨t, ht, h⟩ := hc
  obtain ⟨u, hu, ha⟩ := ha
  obtain ⟨v, hv, hb⟩ := hb
  refine ⟨_, ps_if ht hu hv, fun s F σ H A D g k w => h s F σ H A _ g k (WPT.bindS (p1 := p) w fun x s1 F1 H1 A1 g1 e1 w => ?_)⟩
  cases x with
  | true => rw [if_pos rfl]; simp only [if_pos] at w; exact ha s1 F1 σ H1 A1 D g1 e1.holds (w.later e1)
  | false => rw [if_neg Bool.false_ne_true]; simp only [Bool.false_eq_true, if_false] at w; exact hb s1 F1 σ H1 A1 D g1 e1.holds (w.later e1)

/-! ### stores -/
theorem perm_head (B L C R : Ow) : (B ++ (L ++ (C ++ R))).Perm (C ++ (L ++ (B ++ R))) := by
  refine (List.Perm.append_left B (perm_mid L C R)).trans ((perm_mid B C (L ++ R)).trans (List.Perm.append_left C ?_))
  rw [← List.append_assoc, ← List.append_assoc]
  exact List.perm_append_comm.append_right R
theorem Ext.store {F H F' H' : Hp} {A B L C R : Ow} (e : Ext F H A F' H' (B ++ (L ++ (C ++ R)))) : Ext F H A F' H' (L ++ (B ++ R)) :=
  (e.perm (perm_head B L C R)).sub (List.sublist_append_right _ _)
/-- name = value -/
theorem sm_set {sl : Sl β} {R : Rl α} {f : S → Res (α × S)} {i : Nat} {x : Str} {pos' : Pos} {get : S → β} {put : S → α → S'} (hN : X.N.Nodup) (hi : X.N[i]? = some x) (hx : Loc X.env.scope x) (at_ : At G i sl get (sR R) G' put) (h : EM XR W X p G e R f)
    (hs : swapsWith e (some (.Name x pos')) pos.line X.env = pure false := by rfl) (hf : X.fn x = true ∨ X.env.scope.names.lookup x = some .local := by first | exact .inl rfl | exact .inr rfl | assumption) :
    SM XR W X Rr Gb G (.Assign [.Name x pos'] e pos) G' (fun s => (f s).out fun r => .nx (put r.2 r.1)) := by
  obtain ⟨t, ht, h⟩ := h
  refine ⟨_, ps_set hN hi hx ht hs hf, fun s F σ H A D g k w => h s F σ H A _ g k (WPE.bindS (p1 := p) w fun y s1 v F1 H1 B A1 r1 g1 e1 w => ?_)⟩
  obtain ⟨o, L, C, R', q1, q2, _, st⟩ := at_.at_ s1 F1 σ A1 g1
  subst q2
  exact w F1 _ H1 _ (st F1 (some v) y B (Same.refl _) ⟨v, rfl, r1⟩) e1.store
/-- name += value (ints) -/
theorem sm_augI {T : Ty α} {U : Ty β} {op : Operator} {f : S → Res (β × S)} {gop : α → β → Res α} {ti : TIp} {i : Nat} {x : Str} {pos' : Pos} {get : S → α} {put : S → α → S} (hN : X.N.Nodup) (hi : X.N[i]? = some x) (hx : Loc X.env.scope x) (at_ : At G i (sR (fz T)) get (sR (fz T)) G put) 
    (hop : PIp X op ti) (ho : Op2 ti T U gop (fz T)) (ne : ∀ x y ex, gop x y ≠ .er ex) (h : EM XR W X p G e (fz U) f)
    (hf : X.fn x = true ∨ X.env.scope.names.lookup x = some .local := by first | exact .inl rfl | exact .inr rfl | assumption) :
    SM XR W X Rr Gb G (.AugAssign (.Name x pos') op e pos) G (fun s => (f s).out fun r => (gop (get s) r.1).out fun z => .nx (put r.2 z)) := by
  obtain ⟨t, ht, h⟩ := h
  refine ⟨_, ps_aug hN hi hx ht hop hf, fun s F σ H A D g k w => ?_⟩
  obtain ⟨o, L, C, R', q1, q2, ⟨v, rfl, rC, r⟩, _⟩ := at_.at_ s F σ A g
  refine ⟨v, q1, h s F σ H A _ g k (WPE.bindS (p1 := p) w fun y s1 u F1 H1 B A1 ⟨rB, r1⟩ g1 e1 w => ?_)⟩
  subst rB
  refine ho F1 H1 v u (get s) y _ (T.mono r e1.fz) r1 e1.holds.fz (fun z ez w' F' H' B hr ex => ?_) (fun q => by dsimp only at w; rw [q] at w; exact w) (ne _ _)
  obtain ⟨rB, r2⟩ := hr
  subst rB
  dsimp only at w
  rw [ez] at w
  have e2 := e1.trans (ext_nil e1.holds ex)
  obtain ⟨o', L', C', R2, q1', q2', _, st⟩ := at_.at_ s1 F' σ A1 (G.mono g1 ex.fz)
  subst q2'
  exact w F' _ H' _ (st F' (some w') z [] (Same.refl _) ⟨w', rfl, rfl, r2⟩) (Ext.store (B := []) e2)
theorem sm_addI {f : S → Res (Int × S)} {i : Nat} {x : Str} {pos' : Pos} {get : S → Int} {put : S → Int → S} (hN : X.N.Nodup) (hi : X.N[i]? = some x) (hx : Loc X.env.scope x) (at_ : At G i (sR (fz tInt)) get (sR (fz tInt)) G put) (h : EM XR W X p G e (fz tInt) f)
    (hf : X.fn x = true ∨ X.env.scope.names.lookup x = some .local := by first | exact .inl rfl | exact .inr rfl | assumption) :
    SM XR W X Rr Gb G (.AugAssign (.Name x pos') .Add e pos) G (fun s => (f s).out fun r => (mAdd (get s) r.1).out fun z => .nx (put r.2 z)) :=
  sm_augI hN hi hx at_ ip_add (fun F H v u x y Q rv ru s h _ _ => ⟨x, y, rv, ru, h _ rfl _ F H [] ⟨rfl, rfl⟩ (Ext.refl (holds_nil s))⟩) (fun _ _ _ => okne) h hf
/-- xs.append(value), xs in a slot -/
theorem sm_append {T : Ty α} {f : S → Res (α × S)} {i : Nat} {x : Str} {pp ap cp : Pos} {get : S → List α} {put : S → List α → S} {sl : Sl (List α)} [os : OL T sl] (hN : X.N[i]? = some x) (hv : Vis X.env.scope x) (at_ : At G i sl get sl G put) (h : EM XR W X p G e (fz T) f)
    (mk : ∀ tn te, PE X (.Name x pp) tn → PE X e te → PE X (.Call (.Attribute (.Name x pp) "append" ap) [e] [] cp) (tBM X.K "list" rAppend tn (tCons te tNil)))
    (hs : swapsWith (.Call (.Attribute (.Name x pp) "append" ap) [e] [] cp) none pos.line X.env = pure false := by rfl)
    (hd : (x == ("__debug__" : Str)) = false := by decide) (hcd : (x == ("__classdict__" : Str)) = false := by decide) :
    SM XR W X Rr Gb G (.Expr (.Call (.Attribute (.Name x pp) "append" ap) [e] [] cp) pos) G (fun s => (f s).out fun r => (mApp (get r.2) r.1).out fun z => .nx (put r.2 z)) := by
  obtain ⟨t, ht, h⟩ := h
  refine ⟨_, ps_expr (mk _ _ (pe_var hN hv hd hcd) ht) hs, fun s F σ H A D g k w => ?_⟩
  obtain ⟨o, L, B, R', e1, e2, hsl, _⟩ := at_.at_ s F σ A g
  obtain ⟨a, vs, rfl, e4, r, _⟩ := os.opn hsl
  subst e4
  have hl : H a = some (.lst vs) := (k.ow (a, .lst vs) (by rw [e2]; simp)).2
  refine ⟨.ref a, e1, .inl ⟨rfl, vs, SqL.of hl⟩, h s F σ H A _ g k (WPE.bindS (p1 := p) w fun y s1 u F1 H1 B1 A1 ⟨rB, r1⟩ g1 x1 w => ?_)⟩
  subst rB
  obtain ⟨o', L', B', R2, e1', e2', hsl', st⟩ := at_.at_ s1 F1 σ A1 g1
  obtain ⟨a', vs', rfl, e4', r', cl⟩ := os.opn hsl'
  rw [e1] at e1'
  cases e1'
  subst e4' e2'
  have hl' : H1 a = some (.lst vs') := (x1.holds.ow (a, .lst vs') (by simp)).2
  dsimp only at w
  unfold mApp at w
  by_cases hz : (get s1).length < sizeLine
  · rw [if_pos hz] at w
    refine ⟨a, vs', u, rfl, rfl, hl', by rw [r'.length]; exact hz, ?_⟩
    have hw : Ext F1 H1 [(a, .lst vs')] F1 (upd H1 a (.lst (vs' ++ [u]))) [(a, .lst (vs' ++ [u]))] := Ext.write (x1.holds.sub ((List.sublist_append_left _ _).trans (List.sublist_append_right _ _)))
    have gg := st F1 (some (.ref a)) (get s1 ++ [y]) [(a, .lst (vs' ++ [u]))] (Same.refl _) (cl F1 (vs' ++ [u]) (get s1 ++ [y]) (r'.append ⟨r1, trivial⟩))
    rw [set_same e1] at gg
    exact w F1 σ _ _ gg (x1.trans (Ext.frameMid (L := L') (A := [(a, .lst vs')]) (R := R2) x1.holds hw))
  · rw [if_neg hz] at w; exact w.elim
/-- xs.reverse() -/
theorem sm_reverse {T : Ty α} {i : Nat} {x : Str} {pp ap cp : Pos} {get : S → List α} {put : S → List α → S} {sl : Sl (List α)} [os : OL T sl] (hN : X.N[i]? = some x) (hv : Vis X.env.scope x) (at_ : At G i sl get sl G put)
    (mk : ∀ tn, PE X (.Name x pp) tn → PE X (.Call (.Attribute (.Name x pp) "reverse" ap) [] [] cp) (tBM0 X.K "list" rReverse tn))
    (hs : swapsWith (.Call (.Attribute (.Name x pp) "reverse" ap) [] [] cp) none pos.line X.env = pure false := by rfl)
    (hd : (x == ("__debug__" : Str)) = false := by decide) (hcd : (x == ("__classdict__" : Str)) = false := by decide) :
    SM XR W X Rr Gb G (.Expr (.Call (.Attribute (.Name x pp) "reverse" ap) [] [] cp) pos) G (fun s => .nx (put s (get s).reverse)) := by
  refine ⟨_, ps_expr (mk _ (pe_var hN hv hd hcd)) hs, fun s F σ H A D g k w => ?_⟩
  obtain ⟨o, L, B, R', e1, e2, hsl, st⟩ := at_.at_ s F σ A g
  obtain ⟨a, vs, rfl, e4, r, cl⟩ := os.opn hsl
  subst e4 e2
  have hl : H a = some (.lst vs) := (k.ow (a, .lst vs) (by simp)).2
  have hw : Ext F H [(a, .lst vs)] F (upd H a (.lst vs.reverse)) [(a, .lst vs.reverse)] := Ext.write (k.sub ((List.sublist_append_left _ _).trans (List.sublist_append_right _ _)))
  have gg := st F (some (.ref a)) (get s).reverse [(a, .lst vs.reverse)] (Same.refl _) (cl F vs.reverse (get s).reverse r.reverse)
  rw [set_same e1] at gg
  exact ⟨.ref a, e1, .inl ⟨rfl, vs, SqL.of hl⟩, a, vs, rfl, rfl, hl, w F σ _ _ gg (Ext.frameMid k hw)⟩
/-- xs.pop() as a value -/
def mPop {α : Type} (xs : List α) : Res (α × List α) := match xs.getLast? with
  | some x => .ok (x, xs.dropLast)
  | none => .bad
theorem em_pop {T : Ty α} {i : Nat} {x : Str} {pp ap cp : Pos} {get : S → List α} {put : S → List α → S} {sl : Sl (List α)} [os : OL T sl] (hN : X.N[i]? = some x) (hv : Vis X.env.scope x) (at_ : At G i sl get sl G put)
    (mk : ∀ tn, PE X (.Name x pp) tn → PE X (.Call (.Attribute (.Name x pp) "pop" ap) [] [] cp) (tBM0 X.K "list" rPop tn))
    (hd : (x == ("__debug__" : Str)) = false := by decide) (hcd : (x == ("__classdict__" : Str)) = false := by decide) :
    EM XR W X false G (.Call (.Attribute (.Name x pp) "pop" ap) [] [] cp) (fz T) (fun s => (mPop (get s)).bind fun r => .ok (r.1, put s r.2)) := by
  refine ⟨_, mk _ (pe_var hN hv hd hcd), fun s F σ H A D g k w => ?_⟩
  obtain ⟨o, L, B, R', e1, e2, hsl, st⟩ := at_.at_ s F σ A g
  obtain ⟨a, vs, rfl, e4, r, cl⟩ := os.opn hsl
  subst e4 e2
  have hl : H a = some (.lst vs) := (k.ow (a, .lst vs) (by simp)).2
  dsimp only at w
  unfold mPop at w
  cases q : (get s).getLast? with
  | none => rw [q] at w; exact w.elim
  | some y =>
    rw [q] at w
    obtain ⟨u, h1, h2⟩ := r.last q
    have hw : Ext F H [(a, .lst vs)] F (upd H a (.lst vs.dropLast)) [(a, .lst vs.dropLast)] := Ext.write (k.sub ((List.sublist_append_left _ _).trans (List.sublist_append_right _ _)))
    have gg := st F (some (.ref a)) (get s).dropLast [(a, .lst vs.dropLast)] (Same.refl _) (cl F vs.dropLast (get s).dropLast r.dropLast)
    rw [set_same e1] at gg
    exact ⟨.ref a, e1, .inl ⟨rfl, vs, SqL.of hl⟩, a, vs, u, rfl, rfl, hl, h1, w u F _ [] _ ⟨rfl, h2⟩ gg (Ext.frameMid k hw) (fun hp => by cases hp)⟩
/-- xs[i] = value, xs in a slot -/
theorem sm_setIx {T : Ty α} {f : S → Res (α × S)} {fi : S → Res (Int × S)} {i : Nat} {x : Str} {pp sp : Pos} {get : S → List α} {put : S → List α → S} {sl : Sl (List α)} [os : OL T sl] (hN : X.N[i]? = some x) (hv : Vis X.env.scope x) (at_ : At G i sl get sl G put) (h : EM XR W X p1 G e (fz T) f) (hi : EM XR W X p2 G b (fz tInt) fi)
    (mk : ∀ te tn ti, PE X e te → PE X (.Name x pp) tn → PE X b ti → PS X (.Assign [.Subscript (.Name x pp) b sp] e pos) (tAsg te (gSub tn ti rSetL)))
    (hd : (x == ("__debug__" : Str)) = false := by decide) (hcd : (x == ("__classdict__" : Str)) = false := by decide) :
    SM XR W X Rr Gb G (.Assign [.Subscript (.Name x pp) b sp] e pos) G (fun s => (f s).out fun r => (fi r.2).out fun q => (mSet (get q.2) q.1 r.1).out fun z => .nx (put q.2 z)) := by
  obtain ⟨t, ht, h⟩ := h
  obtain ⟨u, hu, hi⟩ := hi
  refine ⟨_, mk _ _ _ ht (pe_var hN hv hd hcd) hu, fun s F σ H A D g k w => h s F σ H A _ g k (WPE.bindS (p1 := p1) w fun y s1 v F1 H1 B1 A1 ⟨rB, r1⟩ g1 x1 w => ?_)⟩
  subst rB
  obtain ⟨o, L, B, R', e1, e2, hsl, _⟩ := at_.at_ s1 F1 σ A1 g1
  obtain ⟨a, vs, rfl, e4, r, _⟩ := os.opn hsl
  refine ⟨.ref a, e1, hi s1 F1 σ H1 A1 _ g1 x1.holds (WPE.bindS (p1 := p2) (w.later x1) fun j s2 w2 F2 H2 B2 A2 ⟨rB, r2⟩ g2 x2 w => ?_)⟩
  subst rB
  obtain ⟨o', L', B', R2, e1', e2', hsl', st⟩ := at_.at_ s2 F2 σ A2 g2
  obtain ⟨a', vs', rfl, e4', r', cl⟩ := os.opn hsl'
  rw [e1] at e1'
  cases e1'
  subst e4' e2'
  have hl' : H2 a = some (.lst vs') := (x2.holds.ow (a, .lst vs') (by simp)).2
  dsimp only at w
  unfold mSet at w
  cases q : ixN (get s2).length j with
  | none => rw [q] at w; exact w.elim
  | some n =>
    rw [q] at w
    refine ⟨a, vs', j, n, rfl, r2, hl', by rw [r'.length]; exact q, ?_⟩
    have hw : Ext F2 H2 [(a, .lst vs')] F2 (upd H2 a (.lst (vs'.set n v))) [(a, .lst (vs'.set n v))] := Ext.write (x2.holds.sub ((List.sublist_append_left _ _).trans (List.sublist_append_right _ _)))
    have gg := st F2 (some (.ref a)) ((get s2).set n y) [(a, .lst (vs'.set n v))] (Same.refl _) (cl F2 _ _ (r'.set (T.mono r1 x2.fz) n))
    rw [set_same e1] at gg
    exact w F2 σ _ _ gg (x2.trans (Ext.frameMid (L := L') (A := [(a, .lst vs')]) (R := R2) x2.holds hw))

/-! ### targets -/
def Tgt (X : Cx) (tg : Expr) (T : Ty ι) (Gl : Ctx L) (G1 : Ctx L1) (put : L → ι → L1) (vs : List Nat) : Prop :=
  ∃ g, PG X tg g ∧ ∀ l F σ H A v x Q, Gl.P l F σ A → Same F H → T.R F v x → (∀ σ' A', G1.P (put l x) F σ' A' → A'.Sublist A → wipe σ' vs = wipe σ vs → Q σ' H) → g v σ H Q
theorem sub_mid (L B R : Ow) : (L ++ ([] ++ R)).Sublist (L ++ (B ++ R)) := List.Sublist.append (List.Sublist.refl _) (List.sublist_append_right _ _)
theorem tgt_name {T : Ty ι} {sl : Sl β} {i : Nat} {x : Str} {get : L → β} {put : L → ι → L1} (hN : X.N.Nodup) (hi : X.N[i]? = some x) (hx : Loc X.env.scope x) (at_ : At Gl i sl get (sR (fz T)) G1 put)
    (hf : X.fn x = true ∨ X.env.scope.names.lookup x = some .local := by first | exact .inl rfl | exact .inr rfl | assumption) : Tgt X (.Name x pos) T Gl G1 put [i] := by
  refine ⟨_, pg_name hN hi hx hf, fun l F σ H A v y Q g s r h => ?_⟩
  obtain ⟨o, L, C, R', q1, q2, _, st⟩ := at_.at_ l F σ A g
  subst q2
  refine h _ _ (st F (some v) y [] (Same.refl _) ⟨v, rfl, rfl, r⟩) (sub_mid L C R') ?_
  exact wipe_eq (by simp) fun k hk => List.getElem?_set_ne (fun z => hk (by simp [z]))
@[irreducible] def pP (put : L → ι → L1) (put' : L1 → β → S) : L → ι × β → S := fun l z => put' (put l z.1) z.2
theorem pP_eq (put : L → ι → L1) (put' : L1 → β → S) (l : L) (x : ι) (y : β) : pP put put' l (x, y) = put' (put l x) y := by unfold pP; rfl
theorem tgt_pair {T : Ty ι} {U : Ty β} {sl : Sl α} {sl' : Sl γ} {i j k' : Nat} {x y : Str} {px py : Pos} {get : L → α} {get' : L1 → γ} {put : L → ι → L1} {put' : L1 → β → S} (hc : X.calm = true) (hN : X.N.Nodup) (hi : X.N[i]? = some x) (hx : Loc X.env.scope x) (hj : X.N[j]? = some y) (hy : Loc X.env.scope y)
    (at_ : At Gl i sl get (sR (fz T)) G1 put) (at' : At G1 j sl' get' (sR (fz U)) G put')
    (mk : PG X (.Name x px) (gName i) → PG X (.Name y py) (gName j) → PG X (.Tuple [.Name x px, .Name y py] k' pos) (gTup X.K 2 (gCons (gName i) (gCons (gName j) gNil))))
    (hf : X.fn x = true ∨ X.env.scope.names.lookup x = some .local := by first | exact .inl rfl | exact .inr rfl | assumption) (hf' : X.fn y = true ∨ X.env.scope.names.lookup y = some .local := by first | exact .inl rfl | exact .inr rfl | assumption) :
    Tgt X (.Tuple [.Name x px, .Name y py] k' pos) (tP2 T U) Gl G (pP put put') [i, j] := by
  unfold pP
  refine ⟨_, mk (pg_name hN hi hx hf) (pg_name hN hj hy hf'), fun l F σ H A v z Q g s ⟨a, v1, v2, ev, q, r1, r2⟩ h => ?_⟩
  refine ⟨a, [v1, v2], ev, SqT.of (s _ _ q), rfl, v1, [v2], rfl, v2, [], rfl, rfl, ?_⟩
  obtain ⟨o, L, C, R', q1, q2, _, st⟩ := at_.at_ l F σ A g
  subst q2
  have g1 := st F (some v1) z.1 [] (Same.refl _) ⟨v1, rfl, rfl, r1⟩
  obtain ⟨o2, L2, C2, R2, q3, q4, _, st2⟩ := at'.at_ _ F _ _ g1
  refine h _ _ (st2 F (some v2) z.2 [] (Same.refl _) ⟨v2, rfl, rfl, r2⟩) ((sub_mid L2 C2 R2).trans (q4 ▸ sub_mid L C R')) ?_
  refine wipe_eq (by simp) fun k hk => ?_
  rw [List.getElem?_set_ne (fun z => hk (by simp [z])), List.getElem?_set_ne (fun z => hk (by simp [z]))]

/-- a, b = value (a pair) -/
theorem sm_unpack {T : Ty ι} {R : Rl ι} {f : S → Res (ι × S)} {put : S → ι → S'} {vs : List Nat} {tgt : Expr} (tg : Tgt X tgt T G G' put vs) (h : EM XR W X p G e (fz T) f)
    (mk : ∀ te g, PE X e te → PG X tgt g → PS X (.Assign [tgt] e pos) (tAsg te g)) : SM XR W X Rr Gb G (.Assign [tgt] e pos) G' (fun s => (f s).out fun r => .nx (put r.2 r.1)) := by
  obtain ⟨t, ht, h⟩ := h
  obtain ⟨g, hg, tg⟩ := tg
  refine ⟨_, mk _ _ ht hg, fun s F σ H A D gg k w => h s F σ H A _ gg k (WPE.bindS (p1 := p) w fun x s1 v F1 H1 B A1 ⟨rB, r1⟩ g1 e1 w => ?_)⟩
  subst rB
  exact tg s1 F1 σ H1 A1 v x _ g1 e1.holds.fz r1 fun σ' A' g2 sb _ => w F1 σ' H1 A' g2 (e1.sub sb)

/-! ### what is walked -/
structure WalkOk (J : It) (F : Hp) (T : Ty ι) (xs : List ι) : Prop where
  ex : ∃ vs, All2 (T.R F) vs xs ∧ ∀ H2, Same F H2 → (∀ i, i < vs.length → J.go i H2) ∧ (∀ i v H3, J.yld i H2 v H3 → i < vs.length → H3 = H2 ∧ vs[i]? = some v) ∧ J.stop vs.length H2
def WPI (XR : XRel) (W : WX) (σ : St) (T : Ty ι) (G : Ctx S) (F H : Hp) (A : Ow) (Q : It → Hp → Prop) : Res (List ι × S) → Prop
  | .ok (xs, s') => ∀ J F' H' A', WalkOk J F' T xs → G.P s' F' σ A' → Ext F H A F' H' A' → Q J H'
  | .er ex => ∀ cls oe F' H' A', XR ex cls oe H' → Ext F H A F' H' A' → W cls oe σ H'
  | .bad => False
def IM (XR : XRel) (W : WX) (X : Cx) (G : Ctx S) (tg iter : Expr) (T : Ty ι) (f : S → Res (List ι × S)) : Prop :=
  ∃ wi, PI X tg iter wi ∧ ∀ s F σ H A Q, G.P s F σ A → Holds F H A → WPI XR W σ T G F H A Q (f s) → wi σ H Q
theorem im_list {T : Ty ι} {tgt : Expr} {f : S → Res (List ι × S)} (h : EM XR W X p G e (fz (tLst T)) f) : IM XR W X G tgt e T f := by
  obtain ⟨t, ht, h⟩ := h
  refine ⟨_, pi_list ht, fun s F σ H A Q g k w => h s F σ H A _ g k ?_⟩
  cases q : f s with
  | bad => rw [q] at w; exact w
  | er ex => rw [q] at w; exact w
  | ok xs =>
    obtain ⟨x, s1⟩ := xs
    rw [q] at w
    rintro v F1 H1 B A1 ⟨rB, a, vs, ev, q, r⟩ g1 e1 q1
    subst rB
    refine ⟨a, ev, ⟨vs, SqL.of (e1.holds.fz _ _ q)⟩, w _ F1 H1 A1 ⟨vs, r, fun H2 s2 => ⟨fun i hi => ⟨vs, vs[i], SqL.of (s2 _ _ q), List.getElem?_eq_getElem hi⟩, fun i u H3 hy _ => ⟨hy.1, hy.2 vs (SqL.of (s2 _ _ q))⟩, ⟨vs, SqL.of (s2 _ _ q), Nat.le_refl _⟩⟩⟩ g1 e1⟩
theorem im_tup {T : Ty ι} {tgt : Expr} {f : S → Res (List ι × S)} (h : EM XR W X p G e (fz (tTup T)) f) : IM XR W X G tgt e T f := by
  obtain ⟨t, ht, h⟩ := h
  refine ⟨_, pi_tup ht, fun s F σ H A Q g k w => h s F σ H A _ g k ?_⟩
  cases q : f s with
  | bad => rw [q] at w; exact w
  | er ex => rw [q] at w; exact w
  | ok xs =>
    obtain ⟨x, s1⟩ := xs
    rw [q] at w
    rintro v F1 H1 B A1 ⟨rB, a, vs, ev, q, r⟩ g1 e1 q1
    subst rB
    refine ⟨a, ev, ⟨vs, SqT.of (e1.holds.fz _ _ q)⟩, w _ F1 H1 A1 ⟨vs, r, fun H2 s2 => ⟨fun i hi => ⟨vs, vs[i], SqT.of (s2 _ _ q), List.getElem?_eq_getElem hi⟩, fun i u H3 hy _ => ⟨hy.1, hy.2 vs (SqT.of (s2 _ _ q))⟩, ⟨vs, SqT.of (s2 _ _ q), Nat.le_refl _⟩⟩⟩ g1 e1⟩
/-- lo, lo + 1, .. below hi -/
def irange (lo hi : Int) : List Int := (List.range (hi - lo).toNat).map fun i => lo + (i : Nat)
theorem irange_length (lo hi : Int) : (irange lo hi).length = (hi - lo).toNat := by simp [irange]
theorem all2_irange {F : Hp} {lo : Int} : ∀ n : Nat, All2 (tInt.R F) ((List.range n).map fun i => V.int (lo + (i : Nat))) ((List.range n).map fun i => lo + (i : Nat))
  | 0 => trivial
  | n + 1 => by
    rw [List.range_succ, List.map_append, List.map_append]
    exact All2.append (all2_irange n) ⟨rfl, trivial⟩
def mRange (lo hi : Int) : Res (List Int) := if -(2 ^ 62) ≤ lo ∧ lo < 2 ^ 62 ∧ -(2 ^ 62) ≤ hi ∧ hi < 2 ^ 62 then .ok (irange lo hi) else .bad
theorem walk_range {F : Hp} {lo hi : Int} : WalkOk (Itr lo (hi - lo).toNat) F tInt (irange lo hi) := by
  refine ⟨_, all2_irange _, fun H2 s2 => ?_⟩
  have hl : ((List.range (hi - lo).toNat).map fun i => V.int (lo + (i : Nat))).length = (hi - lo).toNat := by simp
  rw [hl]
  refine ⟨fun i hi => hi, fun i v H3 hy hlt => ⟨hy.1, ?_⟩, Nat.le_refl _⟩
  rw [hy.2, List.getElem?_map, List.getElem?_range hlt]
  rfl
theorem im_range1 {f : S → Res (Int × S)} {pp : Pos} {tgt : Expr} (hg : L2.Gl X "range") (hm : X.mg "range" = none) (h : EM XR W X p G a (fz tInt) f) (hs : starEach [a] X.env = [(false, eval a X.env)] := by rfl) :
    IM XR W X G tgt (.Call (.Name "range" pp) [a] [] pos) tInt (fun s => (f s).bind fun r => (mRange 0 r.1).bind fun xs => .ok (xs, r.2)) := by
  obtain ⟨t, ht, h⟩ := h
  refine ⟨_, pi_range1 hg hm (pa_cons ht pa_nil hs) hs, fun s F σ H A Q g k w => h s F σ H A _ g k ?_⟩
  dsimp only at w
  cases q : f s with
  | bad => rw [q] at w; exact w
  | er ex => rw [q] at w; exact w
  | ok xs =>
    obtain ⟨x, s1⟩ := xs
    rw [q] at w
    rintro v F1 H1 B A1 ⟨rB, r⟩ g1 e1 q1
    subst rB
    have r : v = .int x := r
    subst r
    simp only [Res.bind_ok] at w
    unfold mRange at w
    by_cases hb : -(2 ^ 62) ≤ (0 : Int) ∧ (0 : Int) < 2 ^ 62 ∧ -(2 ^ 62) ≤ x ∧ x < 2 ^ 62
    · rw [if_pos hb] at w
      refine ⟨x, rfl, hb.2.2.1, hb.2.2.2, ?_⟩
      have z := w (Itr 0 (x - 0).toNat) F1 H1 A1 walk_range g1 e1
      rwa [show x - 0 = x by omega] at z
    · rw [if_neg hb] at w; exact w.elim
theorem im_range2 {f : S → Res (Int × S)} {f' : S → Res (Int × S)} {pp : Pos} {tgt : Expr} (hg : L2.Gl X "range") (hm : X.mg "range" = none) (h : EM XR W X p1 G a (fz tInt) f) (h' : EM XR W X p2 G b (fz tInt) f') (hs : starEach [a, b] X.env = [(false, eval a X.env), (false, eval b X.env)] := by rfl) (hs2 : starEach [b] X.env = [(false, eval b X.env)] := by rfl)
    (hs3 : starEach [a, b] X.env = (false, eval a X.env) :: starEach [b] X.env := by rfl) :
    IM XR W X G tgt (.Call (.Name "range" pp) [a, b] [] pos) tInt (fun s => (f s).bind fun r => (f' r.2).bind fun r' => (mRange r.1 r'.1).bind fun xs => .ok (xs, r'.2)) := by
  obtain ⟨t, ht, h⟩ := h
  obtain ⟨t', ht', h'⟩ := h'
  refine ⟨_, pi_range2 hg hm (pa_cons ht (pa_cons ht' pa_nil hs2) hs3) hs hs2, fun s F σ H A Q g k w => h s F σ H A _ g k ?_⟩
  dsimp only at w
  cases q : f s with
  | bad => rw [q] at w; exact w
  | er ex => rw [q] at w; exact w
  | ok xs =>
    obtain ⟨x, s1⟩ := xs
    rw [q] at w
    rintro v F1 H1 B A1 ⟨rB, r⟩ g1 e1 q1
    subst rB
    have r : v = .int x := r
    subst r
    refine h' s1 F1 σ H1 A1 _ g1 e1.holds ?_
    simp only [Res.bind_ok] at w
    cases q : f' s1 with
    | bad => rw [q] at w; exact w
    | er ex => rw [q] at w; exact fun cls oe F' H' A' h1 h2 => w cls oe F' H' A' h1 (e1.trans h2)
    | ok xs =>
      obtain ⟨y, s2⟩ := xs
      rw [q] at w
      rintro v F2 H2 B A2 ⟨rB, r⟩ g2 e2 q2
      subst rB
      have r : v = .int y := r
      subst r
      simp only [Res.bind_ok] at w
      unfold mRange at w
      by_cases hb : -(2 ^ 62) ≤ x ∧ x < 2 ^ 62 ∧ -(2 ^ 62) ≤ y ∧ y < 2 ^ 62
      · rw [if_pos hb] at w
        exact ⟨x, y, rfl, hb, w (Itr x (y - x).toNat) F2 H2 A2 walk_range g2 (e1.trans e2)⟩
      · rw [if_neg hb] at w; exact w.elim
end
end TC
namespace TC
open PySem PySem.Spec PyProof.Rows L2

section
variable {XR : XRel} {W : WX} {X : Cx} {S S' S2 S3 L L1 L2' ρ : Type} {G : Ctx S} {G' : Ctx S'} {G2 : Ctx S2} {G3 : Ctx S3} {Gl : Ctx L} {G1 : Ctx L1} {Gb : Ctx L2'} {α β γ ι : Type} {e a b c : Expr} {es : List Expr} {st : Stmt} {sts sts' : List Stmt} {pos : Pos} {p p1 p2 p3 : Bool} {Rr : Rl ρ}

/-! ### for -/
theorem sm_for {T : Ty ι} {fi : S → Res (List ι × S)} {tgt iter : Expr} {body : List Stmt} {m0 : S → L} {put : L → ι → L1} {vs : List Nat} {fb : L1 → Out L L ρ} (hp : PassesOwn (model X.prog X.w) X.A X.env X.xe) (hc : X.calm = true) (hi : IM XR W X G tgt iter T fi) (mv : Mv G Gl m0)
    (tg : Tgt X tgt T Gl G1 put vs) (hb : SS XR W X Rr Gl G1 body Gl fb) (hs : ∀ x, foldedSetIterable iter X.env x = pure x := by intro _; rfl) :
    SM XR W X Rr Gb G (.For tgt iter body [] pos) Gl (fun s => (fi s).out fun r => forM (fun x l => fb (put l x)) r.1 (m0 r.2)) := by
  obtain ⟨wi, hwi, hi⟩ := hi
  obtain ⟨g, hg, tg⟩ := tg
  obtain ⟨tb, htb, hb⟩ := hb
  refine ⟨_, ps_for hp hc hwi hg htb hs, fun s F σ H A D gg k w => hi s F σ H A _ gg k ?_⟩
  dsimp only at w
  cases q : fi s with
  | bad => rw [q] at w; exact w
  | er ex => rw [q] at w; exact fun cls oe F' H' A' h1 h2 => w cls oe F' H' σ A' h1 h2
  | ok xs =>
    obtain ⟨xs, s1⟩ := xs
    rw [q] at w
    simp only [Res.out_ok] at w
    intro J F1 H1 A1 ⟨vs', r, wk⟩ g1 e1
    obtain ⟨F2, A2, g2, e2⟩ := mv.mv s1 F1 H1 σ A1 g1 e1.holds
    let Pv : Nat → St → Hp → Prop := fun i σ' H' => ∃ l F' A', Gl.P l F' σ' A' ∧ Ext F H A F' H' A' ∧ Same F1 F' ∧ WPS XR W Rr Gb Gl F H A D (forM (fun x l => fb (put l x)) (xs.drop i) l)
    refine ⟨fun i m σ' H' => m = xs.length - i ∧ i ≤ xs.length ∧ Pv i σ' H', ⟨xs.length, by simp, Nat.zero_le _, m0 s1, F2, A2, g2, e1.trans e2, e2.fz, w⟩, ?_⟩
    rintro i m σ' H' ⟨rfl, hi', l, F', A', gl, ex, sm, w'⟩
    obtain ⟨go, yld, stop⟩ := wk H' (sm.trans ex.holds.fz)
    rw [r.length] at go yld stop
    by_cases hlt : i < xs.length
    · refine .inr ⟨go i hlt, Pv (i + 1), fun σ'' H'' p' => ⟨xs.length - (i + 1), by omega, rfl, hlt, p'⟩, fun x H3 hy => ?_⟩
      obtain ⟨e3, hv⟩ := yld i x H3 hy hlt
      subst e3
      obtain ⟨v', hv', rx⟩ := r.getD hlt
      rw [hv] at hv'
      cases hv'
      rw [List.drop_eq_getElem_cons hlt, forM_cons] at w'
      refine tg l F' σ' H3 A' x _ _ gl ex.holds.fz (T.mono rx sm) fun σ2 A3 g3 sb _ => ?_
      have ex3 := ex.sub sb
      refine hb _ F' σ2 H3 A3 _ g3 ex3.holds ?_
      cases q2 : fb (put l xs[i]) with
      | bad => rw [q2] at w'; exact w'
      | er ex => rw [q2] at w'; exact fun cls oe F' H' σ' A' h1 h2 => w' cls oe F' H' σ' A' h1 (ex3.trans h2)
      | rt r => rw [q2] at w'; exact fun v F' H' A' h1 h2 => w' v F' H' A' h1 (ex3.trans h2)
      | bk l' => rw [q2] at w'; exact fun F4 σ4 H4 A4 h1 h2 => w' F4 σ4 H4 A4 h1 (ex3.trans h2)
      | nx l' => rw [q2] at w'; exact fun F4 σ4 H4 A4 h1 h2 => ⟨l', F4, A4, h1, ex3.trans h2, sm.trans h2.fz, w'⟩
      | ct l' => rw [q2] at w'; exact fun F4 σ4 H4 A4 h1 h2 => ⟨l', F4, A4, h1, ex3.trans h2, sm.trans h2.fz, w'⟩
    · have ei : i = xs.length := by omega
      subst ei
      rw [List.drop_length] at w'
      exact .inl ⟨stop, w' F' σ' H' A' gl ex⟩

/-! ### while -/
theorem sm_while {c : Expr} {body : List Stmt} {m0 : S → L} {fc : L → Res (Bool × L)} {fb : L → Out L L ρ} (hp : PassesOwn (model X.prog X.w) X.A X.env X.xe) (mv : Mv G Gl m0) (hc : TM XR W X p Gl c fc) (hb : SS XR W X Rr Gl Gl body Gl fb) :
    SM XR W X Rr Gb G (.While c body [] pos) Gl (fun s => whileM fc fb (m0 s)) := by
  obtain ⟨tc, htc, hc⟩ := hc
  obtain ⟨tb, htb, hb⟩ := hb
  refine ⟨_, ps_while hp htc htb, fun s F σ H A D gg k w => ?_⟩
  obtain ⟨F2, A2, g2, e2⟩ := mv.mv s F H σ A gg k
  have nb : (whileM fc fb (m0 s) : Out L L2' ρ) ≠ .bad := fun q => by dsimp only at w; rw [q] at w; exact w
  obtain ⟨n, hn, en⟩ := whileM_exists nb
  dsimp only at w
  rw [en] at w
  refine ⟨fun m σ' H' => ∃ l F' A', Gl.P l F' σ' A' ∧ Ext F H A F' H' A' ∧ WPS XR W Rr Gb Gl F H A D (whileN fc fb m l), ⟨n, m0 s, F2, A2, g2, e2, w⟩, ?_⟩
  rintro m σ' H' ⟨l, F', A', gl, ex, w'⟩
  cases m with
  | zero => exact w'.elim
  | succ m =>
    unfold whileN at w'
    refine hc l F' σ' H' A' _ gl ex.holds ?_
    cases q : fc l with
    | bad => rw [q] at w'; exact w'
    | er x => rw [q] at w'; exact fun cls oe F' H' A' h1 h2 => w' cls oe F' H' σ' A' h1 (ex.trans h2)
    | ok bl =>
      obtain ⟨b, l'⟩ := bl
      rw [q] at w'
      intro F3 H3 A3 g3 e3 _
      have ex3 := ex.trans e3
      cases b with
      | false => rw [if_neg Bool.false_ne_true]; exact w' F3 σ' H3 A3 g3 ex3
      | true =>
        rw [if_pos rfl]
        refine ⟨fun σ4 H4 => ∃ l F' A', Gl.P l F' σ4 A' ∧ Ext F H A F' H4 A' ∧ WPS XR W Rr Gb Gl F H A D (whileN fc fb m l), fun σ4 H4 h => ⟨m, by omega, h⟩, ?_⟩
        refine hb l' F3 σ' H3 A3 _ g3 ex3.holds ?_
        cases q2 : fb l' with
        | bad => simp only [q2] at w'; exact w'
        | er ex => simp only [q2] at w'; exact fun cls oe F' H' σ' A' h1 h2 => w' cls oe F' H' σ' A' h1 (ex3.trans h2)
        | rt r => simp only [q2] at w'; exact fun v F' H' A' h1 h2 => w' v F' H' A' h1 (ex3.trans h2)
        | bk l2 => simp only [q2] at w'; exact fun F4 σ4 H4 A4 h1 h2 => w' F4 σ4 H4 A4 h1 (ex3.trans h2)
        | nx l2 => simp only [q2] at w'; exact fun F4 σ4 H4 A4 h1 h2 => ⟨l2, F4, A4, h1, ex3.trans h2, w'⟩
        | ct l2 => simp only [q2] at w'; exact fun F4 σ4 H4 A4 h1 h2 => ⟨l2, F4, A4, h1, ex3.trans h2, w'⟩

/-! ### comprehensions -/
abbrev W0 : WX := fun _ _ _ _ => False
/-- the context of a comprehension's block -/
structure WipeOk (G : Ctx S) (vs : List Nat) : Prop where
  w : ∀ s F σ A, G.P s F σ A → G.P s F (wipe σ vs) A
theorem wo_nil {vs : List Nat} : WipeOk gnil vs := ⟨fun s F σ A ⟨h1, h2⟩ => ⟨by
  subst h1
  have : (wipe ([] : St) vs).length = 0 := wipe_length [] vs
  exact List.length_eq_zero_iff.mp this, h2⟩⟩
/-- the slots below -/
def down (vs : List Nat) : List Nat := vs.filterMap fun v => if v = 0 then none else some (v - 1)
theorem mem_down {vs : List Nat} {k : Nat} : k ∈ down vs ↔ k + 1 ∈ vs := by
  unfold down
  rw [List.mem_filterMap]
  constructor
  · rintro ⟨v, hv, e⟩
    split at e
    · cases e
    · cases e
      rwa [show v - 1 + 1 = v by omega]
  · intro h
    exact ⟨k + 1, h, by simp⟩
theorem wipe_cons (o : Option V) (σ : St) (vs : List Nat) : wipe (o :: σ) vs = (if 0 ∈ vs then none else o) :: wipe σ (down vs) := by
  apply List.ext_getElem?
  intro k
  rw [wipe_get]
  cases k with
  | zero =>
    by_cases h : 0 ∈ vs
    · simp [h]
    · simp [h]
  | succ k =>
    rw [List.getElem?_cons_succ, List.getElem?_cons_succ, wipe_get]
    by_cases h : k + 1 ∈ vs
    · rw [if_pos h, if_pos (mem_down.mpr h)]
      simp
    · rw [if_neg h, if_neg (fun z => h (mem_down.mp z))]
theorem wo_any {vs : List Nat} (h : WipeOk G (down vs)) : WipeOk (gcons (sAny : Sl α) G) vs := ⟨fun s F σ A ⟨o, σ', B, R, e1, e2, h1, h2⟩ => ⟨if 0 ∈ vs then none else o, wipe σ' (down vs), B, R, by rw [e1, wipe_cons], e2, trivial, h.w _ _ _ _ h2⟩⟩
theorem wo_keep {sl : Sl α} {vs : List Nat} (n : 0 ∉ vs) (h : WipeOk G (down vs)) : WipeOk (gcons sl G) vs := ⟨fun s F σ A ⟨o, σ', B, R, e1, e2, h1, h2⟩ => ⟨o, wipe σ' (down vs), B, R, by rw [e1, wipe_cons, if_neg n], e2, h1, h.w _ _ _ _ h2⟩⟩
/-- back from the block's context -/
structure BackOk (G1 : Ctx L1) (G : Ctx S) (back : L1 → S) : Prop where
  b : ∀ l F σ A, G1.P l F σ A → ∃ A', A'.Sublist A ∧ G.P (back l) F σ A'
theorem bo_refl : BackOk G G (fun s => s) := ⟨fun l F σ A h => ⟨A, List.Sublist.refl _, h⟩⟩
/-- back, the state as it is -/
abbrev BackI (G1 G : Ctx S) : Prop := BackOk G1 G (fun s => s)
theorem bi_refl : BackI G G := bo_refl
theorem bo_cons {sl : Sl α} {back : S → S'} (h : BackOk G G' back) : BackOk (gcons sl G) (gcons sl G') (fun l => (l.1, back l.2)) := ⟨fun l F σ A ⟨o, σ', B, R, e1, e2, h1, h2⟩ => by
  obtain ⟨A', sb, g⟩ := h.b _ _ _ _ h2
  exact ⟨B ++ A', e2 ▸ List.Sublist.append (List.Sublist.refl _) sb, o, σ', B, A', e1, rfl, h1, g⟩⟩
theorem bo_any {sl : Sl α} {f : α → β} {back : S → S'} (h : BackOk G G' back) : BackOk (gcons sl G) (gcons (sAny : Sl β) G') (fun l => (f l.1, back l.2)) := ⟨fun l F σ A ⟨o, σ', B, R, e1, e2, h1, h2⟩ => by
  obtain ⟨A', sb, g⟩ := h.b _ _ _ _ h2
  exact ⟨A', e2 ▸ (sb.trans (List.sublist_append_right _ _)), o, σ', [], A', e1, rfl, trivial, g⟩⟩
theorem bi_cons {S : Type} {G G' : Ctx S} {sl : Sl α} (h : BackI G G') : BackI (gcons sl G) (gcons sl G') := bo_cons h
theorem bi_any {S : Type} {G G' : Ctx S} {sl : Sl α} (h : BackI G G') : BackI (gcons sl G) (gcons (sAny : Sl α) G') := bo_any (f := fun x => x) h
/-- a comprehension's turns; an error in a block has no mirror -/
def compL {ι S β : Type} (body : ι → S → Res (Option β × S)) : List ι → S → Res (List β × S)
  | [], s => .ok ([], s)
  | x :: xs, s => match body x s with
    | .ok (y, s1) => match compL body xs s1 with
      | .ok (ys, s2) => .ok (match y with | some y => y :: ys | none => ys, s2)
      | _ => .bad
    | _ => .bad
def mComp {ι S β : Type} (body : ι → S → Res (Option β × S)) (xs : List ι) (s : S) : Res (List β × S) := if xs.length ≤ sizeLine then compL body xs s else .bad
theorem compL_len {body : ι → S → Res (Option β × S)} : ∀ {xs : List ι} {s : S} {ys : List β} {s' : S}, compL body xs s = .ok (ys, s') → ys.length ≤ xs.length
  | [], s, ys, s', h => by cases h; exact Nat.le_refl _
  | x :: xs, s, ys, s', h => by
    unfold compL at h
    cases q : body x s with
    | bad => rw [q] at h; cases h
    | er e => rw [q] at h; cases h
    | ok r =>
      obtain ⟨y, s1⟩ := r
      rw [q] at h
      dsimp only at h
      cases q2 : compL body xs s1 with
      | bad => rw [q2] at h; cases h
      | er e => rw [q2] at h; cases h
      | ok r2 =>
        obtain ⟨zs, s2⟩ := r2
        rw [q2] at h
        have := compL_len q2
        cases y with
        | none => cases h; exact Nat.le_succ_of_le this
        | some y => cases h; exact Nat.succ_le_succ this
theorem mComp_ne {body : ι → S → Res (Option β × S)} {xs : List ι} {s : S} {ex : Ex} : mComp body xs s ≠ .er ex := by
  have h : ∀ (xs : List ι) (s : S), compL body xs s ≠ .er ex := by
    intro xs
    induction xs with
    | nil => intro s h; cases h
    | cons x xs ih =>
      intro s h
      unfold compL at h
      split at h
      · split at h <;> cases h
      · cases h
  unfold mComp
  split
  · exact h _ _
  · intro h; cases h
theorem wipe_idem (σ : St) (vs : List Nat) : wipe (wipe σ vs) vs = wipe σ vs := wipe_eq (wipe_length _ _) fun k hk => by rw [wipe_get, if_neg hk]
/-- one turn of a block, by its mirror -/
def Turns (T : Ty ι) (U : Ty β) (G : Ctx S) (vs : List Nat) (g : TG) (tt : TT) (te : TE) (body : ι → S → Res (Option β × S)) : Prop :=
  ∀ x s F σ H A v (Q1 : VK) (Q0 : Hp → Prop), G.P s F σ A → wipe σ vs = σ → Holds F H A → T.R F v x →
    (match body x s with
      | .ok (some y, s') => ∀ w F' H' A', U.R F' w y → G.P s' F' σ A' → Ext F H A F' H' A' → Q1 w H'
      | .ok (none, s') => ∀ F' H' A', G.P s' F' σ A' → Ext F H A F' H' A' → Q0 H'
      | _ => False) →
    g v σ H fun σ2 H2 => wipe σ2 vs = σ ∧ tt σ2 H2 fun b H3 => if b = true then te σ2 H3 Q1 else Q0 H3
theorem lc_run {T : Ty ι} {U : Ty β} {vs : List Nat} {g : TG} {tt : TT} {te : TE} {body : ι → S → Res (Option β × S)} (ht : Turns T U G vs g tt te body) (wo : WipeOk G vs) {J : It} {F H : Hp} {A : Ow} {σ : St} {s : S} {xs : List ι} {Q : VK} (wk : WalkOk J F T xs) (hg : G.P s F σ A) (hh : Holds F H A)
    (w : match mComp body xs s with
      | .ok (ys, s') => ∀ v F' H' B A', (oL U).P F' v ys B → G.P s' F' (wipe σ vs) A' → Ext F H A F' H' (B ++ A') → Q v H'
      | _ => False) :
    ∀ D, H D = none → ∃ W : Nat → Nat → Hp → Prop, (∃ m, W 0 m (upd H D (.lst []))) ∧ ∀ i m H, W i m H →
  (J.stop i H ∧ Q (.ref D) H) ∨ (J.go i H ∧ ∃ Nx : Hp → Prop, (∀ H', Nx H' → ∃ m', m' < m ∧ W (i + 1) m' H') ∧ ∀ x H', J.yld i H x H' → g x (wipe σ vs) H' fun σ2 H2 => wipe σ2 vs = wipe σ vs ∧ tt σ2 H2 fun b H3 =>
    if b = true then te σ2 H3 fun y H4 => ∃ acc, H4 D = some (.lst acc) ∧ acc.length < sizeLine ∧ Nx (upd H4 D (.lst (acc ++ [y]))) else Nx H3) := by
  intro D hD
  obtain ⟨vs', r, wk⟩ := wk
  unfold mComp at w
  have hle : xs.length ≤ sizeLine := by
    by_cases z : xs.length ≤ sizeLine
    · exact z
    · rw [if_neg z] at w; exact w.elim
  rw [if_pos hle] at w
  let Pv : Nat → Hp → Prop := fun i H' => ∃ s' ys acc F' A', G.P s' F' (wipe σ vs) A' ∧ Ext F H A F' H' ((D, .lst acc) :: A') ∧ All2 (U.R F') acc ys ∧ acc.length ≤ i ∧ (match compL body (xs.drop i) s' with
      | .ok (zs, s2) => ∀ v F' H' B A', (oL U).P F' v (ys ++ zs) B → G.P s2 F' (wipe σ vs) A' → Ext F H A F' H' (B ++ A') → Q v H'
      | _ => False)
  refine ⟨fun i m H' => m = xs.length - i ∧ i ≤ xs.length ∧ Pv i H', ⟨xs.length, by simp, Nat.zero_le _, s, [], [], F, A, wo.w _ _ _ _ hg, Ext.newO hh hD, trivial, Nat.le_refl _, ?_⟩, ?_⟩
  · rw [List.drop_zero]
    cases q : compL body xs s with
    | bad => rw [q] at w; exact w
    | er e => rw [q] at w; exact w
    | ok r => obtain ⟨ys, s2⟩ := r; rw [q] at w; exact w
  rintro i m H' ⟨rfl, hi, s', ys, acc, F', A', g', ex, ra, la, w'⟩
  obtain ⟨go, yld, stop⟩ := wk H' (ex.fz.trans ex.holds.fz)
  rw [r.length] at go yld stop
  by_cases hlt : i < xs.length
  · refine .inr ⟨go i hlt, Pv (i + 1), fun H'' p' => ⟨xs.length - (i + 1), by omega, rfl, hlt, p'⟩, fun x H3 hy => ?_⟩
    obtain ⟨e3, hv⟩ := yld i x H3 hy hlt
    subst e3
    obtain ⟨v', hv', rx⟩ := r.getD hlt
    rw [hv] at hv'
    cases hv'
    rw [List.drop_eq_getElem_cons hlt] at w'
    unfold compL at w'
    have hA : Holds F' H3 (A' ++ [(D, .lst acc)]) := ex.holds.perm (List.perm_append_comm (l₁ := [(D, HO.lst acc)]) (l₂ := A'))
    have frame : ∀ {F4 H4 A4}, Ext F' H3 A' F4 H4 A4 → Ext F H A F4 H4 ((D, .lst acc) :: A4) := fun {F4 H4 A4} e4 => by
      have z := (Ext.frame hA e4).permL (List.perm_append_comm (l₁ := A') (l₂ := [(D, HO.lst acc)]))
      exact ex.trans (z.perm (List.perm_append_comm (l₁ := A4) (l₂ := [(D, HO.lst acc)])))
    refine ht xs[i] s' F' (wipe σ vs) H3 A' x (fun y H4 => ∃ acc, H4 D = some (.lst acc) ∧ acc.length < sizeLine ∧ Pv (i + 1) (upd H4 D (.lst (acc ++ [y])))) (Pv (i + 1)) g' (wipe_idem _ _) (hA.sub (List.sublist_append_left _ _)) (T.mono rx ex.fz) ?_
    cases q : body xs[i] s' with
    | bad => rw [q] at w'; exact w'
    | er e => rw [q] at w'; exact w'
    | ok yr =>
      obtain ⟨y, s1⟩ := yr
      rw [q] at w'
      dsimp only at w'
      cases y with
      | none =>
        intro F4 H4 A4 g4 e4
        refine ⟨s1, ys, acc, F4, A4, g4, frame e4, U.all ra e4.fz, by omega, ?_⟩
        cases q2 : compL body (xs.drop (i + 1)) s1 with
        | bad => rw [q2] at w'; exact w'
        | er e => rw [q2] at w'; exact w'
        | ok r => rw [q2] at w'; exact w'
      | some y =>
        intro wv F4 H4 A4 ry g4 e4
        have e5 := frame e4
        have hD4 : H4 D = some (.lst acc) := (e5.holds.ow (D, .lst acc) List.mem_cons_self).2
        refine ⟨acc, hD4, by omega, s1, ys ++ [y], acc ++ [wv], F4, A4, g4, e5.trans (Ext.write e5.holds), (U.all ra e4.fz).append ⟨ry, trivial⟩, by simp; omega, ?_⟩
        cases q2 : compL body (xs.drop (i + 1)) s1 with
        | bad => rw [q2] at w'; exact w'
        | er e => rw [q2] at w'; exact w'
        | ok r =>
          rw [q2] at w'
          dsimp only at w' ⊢
          intro v F' H' B A' h1 h2 h3
          refine w' v F' H' B A' ?_ h2 h3
          rwa [List.append_assoc] at h1
  · have ei : i = xs.length := by omega
    subst ei
    rw [List.drop_length] at w'
    refine .inl ⟨stop, ?_⟩
    have w2 : ∀ v F' H' B A', (oL U).P F' v (ys ++ []) B → G.P s' F' (wipe σ vs) A' → Ext F H A F' H' (B ++ A') → Q v H' := w'
    exact w2 _ F' H' [(D, .lst acc)] A' ⟨D, acc, rfl, rfl, by rw [List.append_nil]; exact ra⟩ g' ex
/-- a block's context after the block: the slots as they were -/
structure KeepOk (G : Ctx S) (vs : List Nat) : Prop where
  k : ∀ s F σ σ' A, G.P s F σ A → wipe σ vs = wipe σ' vs → G.P s F σ' A
theorem ko_nil {vs : List Nat} : KeepOk gnil vs := ⟨fun s F σ σ' A ⟨h1, h2⟩ e => ⟨by
  subst h1
  have := congrArg List.length e
  rw [wipe_length, wipe_length] at this
  exact List.length_eq_zero_iff.mp this.symm, h2⟩⟩
theorem ko_split {o : Option V} {σ σ' : St} {vs : List Nat} (e : wipe (o :: σ) vs = wipe σ' vs) : ∃ o' σ2, σ' = o' :: σ2 ∧ wipe σ (down vs) = wipe σ2 (down vs) ∧ (0 ∉ vs → o' = o) := by
  cases σ' with
  | nil =>
    have := congrArg List.length e
    rw [wipe_length, wipe_length] at this
    cases this
  | cons o' σ2 =>
    rw [wipe_cons, wipe_cons] at e
    injection e with e1 e2
    refine ⟨o', σ2, rfl, e2, fun n => ?_⟩
    rw [if_neg n, if_neg n] at e1
    exact e1.symm
theorem ko_any {vs : List Nat} (h : KeepOk G (down vs)) : KeepOk (gcons (sAny : Sl α) G) vs := ⟨fun s F σ σ' A ⟨o, σ1, B, R, e1, e2, h1, h2⟩ e => by
  subst e1
  obtain ⟨o', σ2, rfl, q, _⟩ := ko_split e
  exact ⟨o', σ2, B, R, rfl, e2, trivial, h.k _ _ _ _ _ h2 q⟩⟩
theorem ko_keep {sl : Sl α} {vs : List Nat} (n : 0 ∉ vs) (h : KeepOk G (down vs)) : KeepOk (gcons sl G) vs := ⟨fun s F σ σ' A ⟨o, σ1, B, R, e1, e2, h1, h2⟩ e => by
  subst e1
  obtain ⟨o', σ2, rfl, q, z⟩ := ko_split e
  exact ⟨o', σ2, B, R, rfl, e2, by rw [z n]; exact h1, h.k _ _ _ _ _ h2 q⟩⟩
theorem KeepOk.wipe {vs : List Nat} (h : KeepOk G vs) : WipeOk G vs := ⟨fun s F σ A g => h.k s F σ _ A g (wipe_idem _ _).symm⟩

abbrev Blk (X : Cx) (scope : Scope) (s : Shared) (H : Hp) (C : Addr) (cl : List (Str × Addr)) (fp : List Addr) : Cx := X.blk s H scope (compEnvC scope cl C X.env) fp
open Classical in
theorem all_tgt {scope : Scope} {T : Ty ι} {tgt : Expr} {put : S → ι → L1} {vs : List Nat} (tg : ∀ s H C cl fp, Tgt (Blk X scope s H C cl fp) tgt T G G1 put vs) : ∃ g, (∀ s H C cl fp, PG (Blk X scope s H C cl fp) tgt g) ∧
    ∀ l F σ H A v x Q, G.P l F σ A → Same F H → T.R F v x → (∀ σ' A', G1.P (put l x) F σ' A' → A'.Sublist A → wipe σ' vs = wipe σ vs → Q σ' H) → g v σ H Q :=
  ⟨fun v σ H Q => ∀ s H0 C cl fp, (tg s H0 C cl fp).choose v σ H Q, fun s H C cl fp => ⟨fun pins s' σ H' v u Q I r h => (tg s H C cl fp).choose_spec.1.run pins s' σ H' v u Q I r (h s H C cl fp)⟩,
    fun l F σ H A v x Q h1 h2 h3 h4 s H0 C cl fp => (tg s H0 C cl fp).choose_spec.2 l F σ H A v x Q h1 h2 h3 h4⟩
open Classical in
theorem all_pts {scope : Scope} {ifs : List Expr} {ft : L1 → Res (Bool × L1)} (tt : ∀ s H C cl fp, ∃ t, PTs (Blk X scope s H C cl fp) ifs t ∧ ∀ s F σ H A Q, G1.P s F σ A → Holds F H A → WPT XR W0 false σ G1 F H A s Q (ft s) → t σ H Q) :
    ∃ t, (∀ s H C cl fp, PTs (Blk X scope s H C cl fp) ifs t) ∧ ∀ s F σ H A Q, G1.P s F σ A → Holds F H A → WPT XR W0 false σ G1 F H A s Q (ft s) → t σ H Q :=
  ⟨fun σ H Q => ∀ s H0 C cl fp, (tt s H0 C cl fp).choose σ H Q, fun s H C cl fp => ⟨fun pins s' σ H' Q I h => (tt s H C cl fp).choose_spec.1.run pins s' σ H' Q I (h s H C cl fp)⟩,
    fun s F σ H A Q h1 h2 h3 s0 H0 C cl fp => (tt s0 H0 C cl fp).choose_spec.2 s F σ H A Q h1 h2 h3⟩
open Classical in
theorem all_em {scope : Scope} {elt : Expr} {R : Rl β} {fe : L1 → Res (β × L1)} (te : ∀ s H C cl fp, EM XR W0 (Blk X scope s H C cl fp) p G1 elt R fe) :
    ∃ t, (∀ s H C cl fp, PE (Blk X scope s H C cl fp) elt t) ∧ ∀ s F σ H A Q, G1.P s F σ A → Holds F H A → WPE XR W0 p σ R G1 F H A s Q (fe s) → t σ H Q :=
  ⟨fun σ H Q => ∀ s H0 C cl fp, (te s H0 C cl fp).choose σ H Q, fun s H C cl fp => ⟨fun pins s' σ H' Q I h => (te s H C cl fp).choose_spec.1.run pins s' σ H' Q I (h s H C cl fp)⟩,
    fun s F σ H A Q h1 h2 h3 s0 H0 C cl fp => (te s0 H0 C cl fp).choose_spec.2 s F σ H A Q h1 h2 h3⟩
theorem em_lcG {T : Ty ι} {U : Ty β} {fi : S → Res (List ι × S)} {tgt iter elt : Expr} {ifs : List Expr} {scope : Scope} {own : List (Str × Nat)} {put : S → ι → L1} {back : L1 → S} {ft : L1 → Res (Bool × L1)} {fe : L1 → Res (β × L1)} (hc : X.calm = true) (hN : X.N.Nodup) (hi : IM XR W X G tgt iter T fi)
    (ok : BlkOk X.N X.env.scope scope own) (ko : KeepOk G (own.map (·.2))) (tg : ∀ s H C cl fp, Tgt (Blk X scope s H C cl fp) tgt T G G1 put (own.map (·.2)))
    (tt : ∀ s H C cl fp, ∃ t, PTs (Blk X scope s H C cl fp) ifs t ∧ ∀ s F σ H A Q, G1.P s F σ A → Holds F H A → WPT XR W0 false σ G1 F H A s Q (ft s) → t σ H Q)
    (te : ∀ s H C cl fp, EM XR W0 (Blk X scope s H C cl fp) p G1 elt (fz U) fe) (bo : BackOk G1 G back) (hs : ∀ x, foldedSetIterable iter X.env x = pure x) :
    ∃ wi g tt te, PI X tgt iter wi ∧ (∀ s H C cl fp, PG (Blk X scope s H C cl fp) tgt g) ∧ (∀ s H C cl fp, PTs (Blk X scope s H C cl fp) ifs tt) ∧ (∀ s H C cl fp, PE (Blk X scope s H C cl fp) elt te) ∧
      ∀ s F σ H A Q, G.P s F σ A → Holds F H A → WPE XR W false σ (oL U) G F H A s Q ((fi s).bind fun r => mComp (fun x s => (ft (put s x)).bind fun b => if b.1 then (fe b.2).bind fun q => .ok (some q.1, back q.2) else .ok (none, back b.2)) r.1 r.2) → tLc wi g tt te (own.map (·.2)) σ H Q := by
  obtain ⟨wi, hwi, hi⟩ := hi
  obtain ⟨g, hg, tg⟩ := all_tgt tg
  obtain ⟨t1, ht1, tt⟩ := all_pts tt
  obtain ⟨t2, ht2, te⟩ := all_em te
  refine ⟨wi, g, t1, t2, hwi, hg, ht1, ht2, fun s F σ H A Q gg k w => hi s F σ H A _ gg k ?_⟩
  cases q : fi s with
  | bad => rw [q] at w; exact w
  | er ex => rw [q] at w; exact w
  | ok xs =>
    obtain ⟨xs, s1⟩ := xs
    rw [q] at w
    simp only [Res.bind_ok] at w
    intro J F1 H1 A1 wk g1 e1
    refine lc_run (U := U) (body := fun x s => (ft (put s x)).bind fun b => if b.1 then (fe b.2).bind fun q => .ok (some q.1, back q.2) else .ok (none, back b.2)) ?_ ko.wipe wk g1 e1.holds ?_
    · intro x s F σ H A v Q1 Q0 g0 hw hh rx w'
      refine tg s F σ H A v x _ g0 hh.fz rx fun σ' A' g2 sb ew => ⟨by rw [ew, hw], ?_⟩
      have h2 := hh.sub sb
      have ex2 : Ext F H A F H A' := (Ext.refl hh).sub sb
      refine tt (put s x) F σ' H A' _ g2 h2 ?_
      dsimp only at w'
      cases q3 : ft (put s x) with
      | bad => rw [q3] at w'; exact w'
      | er ex => rw [q3] at w'; exact w'.elim
      | ok br =>
        obtain ⟨b, l1⟩ := br
        rw [q3] at w'
        simp only [Res.bind_ok] at w'
        intro F3 H3 A3 g3 e3 _
        cases b with
        | false =>
          rw [if_neg Bool.false_ne_true]
          simp only [Bool.false_eq_true, if_false] at w'
          obtain ⟨A4, sb4, g4⟩ := bo.b l1 F3 σ' A3 g3
          exact w' F3 H3 A4 (ko.k _ _ _ _ _ g4 ew) (ex2.trans (e3.sub sb4))
        | true =>
          rw [if_pos rfl]
          simp only [if_true] at w'
          refine te l1 F3 σ' H3 A3 _ g3 e3.holds ?_
          cases q4 : fe l1 with
          | bad => rw [q4] at w'; exact w'
          | er ex => rw [q4] at w'; exact w'.elim
          | ok yr =>
            obtain ⟨y, l2⟩ := yr
            rw [q4] at w'
            rintro u F5 H5 B A5 ⟨rB, ru⟩ g5 e5 _
            subst rB
            obtain ⟨A6, sb6, g6⟩ := bo.b l2 F5 σ' A5 g5
            exact w' u F5 H5 A6 ru (ko.k _ _ _ _ _ g6 ew) (ex2.trans (e3.trans (e5.sub sb6)))
    · have nm : ∀ ex, mComp (fun x s => (ft (put s x)).bind fun b => if b.1 = true then (fe b.2).bind fun q => .ok (some q.1, back q.2) else .ok (none, back b.2)) xs s1 ≠ .er ex := fun _ => mComp_ne
      generalize mComp (fun x s => (ft (put s x)).bind fun b => if b.1 = true then (fe b.2).bind fun q => .ok (some q.1, back q.2) else .ok (none, back b.2)) xs s1 = res at w nm ⊢
      cases res with
      | bad => exact w
      | er e => exact absurd rfl (nm e)
      | ok r =>
        obtain ⟨ys, s2⟩ := r
        exact fun v F' H' B A' h1 h2 h3 => w v F' H' B A' h1 (ko.k _ _ _ _ _ h2 (wipe_idem _ _)) (e1.trans h3) (fun z => by cases z)

section
variable {T : Ty ι} {U : Ty β} {fi : S → Res (List ι × S)} {tgt iter elt : Expr} {scope : Scope} {own : List (Str × Nat)} {put : S → ι → L1} {back : L1 → S} {ft : L1 → Res (Bool × L1)} {fe : L1 → Res (β × L1)}
theorem mComp_true (put : S → ι → L1) (back : L1 → S) (fe : L1 → Res (β × L1)) : (fun (x : ι) (s : S) => (Res.ok (true, put s x)).bind fun (b : Bool × L1) => if b.1 = true then (fe b.2).bind fun q => Res.ok (some q.1, back q.2) else .ok (none, back b.2)) = fun x s => (fe (put s x)).bind fun q => .ok (some q.1, back q.2) := rfl
theorem em_lc (hc : X.calm = true) (hN : X.N.Nodup) (hi : IM XR W X G tgt iter T fi)
    (ok : BlkOk X.N X.env.scope scope own) (ko : KeepOk G (own.map (·.2))) (tg : ∀ s H C cl fp, Tgt (Blk X scope s H C cl fp) tgt T G G1 put (own.map (·.2)))
    (te : ∀ s H C cl fp, EM XR W0 (Blk X scope s H C cl fp) p G1 elt (fz U) fe) (bo : BackOk G1 G back) (hs : ∀ x, foldedSetIterable iter X.env x = pure x := by intro _; rfl) :
    EM XR W X false G (.ListComp elt [⟨tgt, iter, [], 0⟩] scope pos) (oL U) (fun s => (fi s).bind fun r => mComp (fun x s => (fe (put s x)).bind fun q => .ok (some q.1, back q.2)) r.1 r.2) := by
  obtain ⟨wi, g, t1, t2, h1, h2, h3, h4, h⟩ := em_lcG (ft := fun l => .ok (true, l)) (ifs := []) hc hN hi ok ko tg (fun s H C cl fp => ⟨_, pts_nil, fun s F σ H A Q g k w => w F H A g (Ext.refl k) (fun z => by cases z)⟩) te bo hs
  exact ⟨_, pe_lc hc hN h1 ok h2 h3 h4 hs, h⟩
theorem em_lcIf {c : Expr} (hc : X.calm = true) (hN : X.N.Nodup) (hi : IM XR W X G tgt iter T fi)
    (ok : BlkOk X.N X.env.scope scope own) (ko : KeepOk G (own.map (·.2))) (tg : ∀ s H C cl fp, Tgt (Blk X scope s H C cl fp) tgt T G G1 put (own.map (·.2)))
    (tt : ∀ s H C cl fp, TM XR W0 (Blk X scope s H C cl fp) p1 G1 c ft)
    (te : ∀ s H C cl fp, EM XR W0 (Blk X scope s H C cl fp) p G1 elt (fz U) fe) (bo : BackOk G1 G back) (hs : ∀ x, foldedSetIterable iter X.env x = pure x := by intro _; rfl) :
    EM XR W X false G (.ListComp elt [⟨tgt, iter, [c], 0⟩] scope pos) (oL U) (fun s => (fi s).bind fun r => mComp (fun x s => (ft (put s x)).bind fun b => if b.1 then (fe b.2).bind fun q => .ok (some q.1, back q.2) else .ok (none, back b.2)) r.1 r.2) := by
  obtain ⟨wi, g, t1, t2, h1, h2, h3, h4, h⟩ := em_lcG (ft := ft) (ifs := [c]) hc hN hi ok ko tg (fun s H C cl fp => by
    obtain ⟨t, ht, h⟩ := tt s H C cl fp
    refine ⟨_, pts_one ht, fun s F σ H A Q g k w => h s F σ H A Q g k ?_⟩
    cases q : ft s with
    | bad => rw [q] at w; exact w
    | er ex => rw [q] at w; exact w
    | ok r => obtain ⟨b, s'⟩ := r; rw [q] at w; exact fun F' H' A' h1 h2 _ => w F' H' A' h1 h2 (fun z => by cases z)) te bo hs
  exact ⟨_, pe_lc hc hN h1 ok h2 h3 h4 hs, h⟩
/-- name = [..] on one line -/
theorem sm_setLc {sl : Sl α} {i : Nat} {y : Str} {py spos : Pos} {get : S → α} {put' : S → List β → S'} (hc : X.calm = true) (hN : X.N.Nodup) (hy : X.N[i]? = some y) (hyl : X.env.scope.names.lookup y = some .local) (at_ : At G i sl get (sR (oL U)) G' put')
    (hsw : swapsWith (.ListComp elt [⟨tgt, iter, [], 0⟩] scope pos) (some (.Name y py)) spos.line X.env = pure true) (hi : IM XR W X G tgt iter T fi)
    (ok : BlkOk X.N X.env.scope scope own) (ko : KeepOk G (own.map (·.2))) (tg : ∀ s H C cl fp, Tgt (Blk X scope s H C cl fp) tgt T G G1 put (own.map (·.2)))
    (te : ∀ s H C cl fp, EM XR W0 (Blk X scope s H C cl fp) p G1 elt (fz U) fe) (bo : BackOk G1 G back) (hs : ∀ x, foldedSetIterable iter X.env x = pure x := by intro _; rfl) :
    SM XR W X Rr Gb G (.Assign [.Name y py] (.ListComp elt [⟨tgt, iter, [], 0⟩] scope pos) spos) G' (fun s => ((fi s).bind fun r => mComp (fun x s => (fe (put s x)).bind fun q => .ok (some q.1, back q.2)) r.1 r.2).out fun r => .nx (put' r.2 r.1)) := by
  obtain ⟨wi, g, t1, t2, h1, h2, h3, h4, h⟩ := em_lcG (ft := fun l => .ok (true, l)) (ifs := []) hc hN hi ok ko tg (fun s H C cl fp => ⟨_, pts_nil, fun s F σ H A Q g k w => w F H A g (Ext.refl k) (fun z => by cases z)⟩) te bo hs
  refine ⟨_, ps_setLc hc hN hy hyl hsw h1 ok h2 h3 h4 hs, fun s F σ H A D gg k w => h s F σ H A _ gg k (WPE.bindS (p1 := false) w fun y s1 v F1 H1 B A1 r1 g1 e1 w => ?_)⟩
  obtain ⟨o, L, C, R', q1, q2, _, st⟩ := at_.at_ s1 F1 σ A1 g1
  subst q2
  exact w F1 _ H1 _ (st F1 (some v) y B (Same.refl _) ⟨v, rfl, r1⟩) e1.store
theorem sm_setLcIf {c : Expr} {sl : Sl α} {i : Nat} {y : Str} {py spos : Pos} {get : S → α} {put' : S → List β → S'} (hc : X.calm = true) (hN : X.N.Nodup) (hy : X.N[i]? = some y) (hyl : X.env.scope.names.lookup y = some .local) (at_ : At G i sl get (sR (oL U)) G' put')
    (hsw : swapsWith (.ListComp elt [⟨tgt, iter, [c], 0⟩] scope pos) (some (.Name y py)) spos.line X.env = pure true) (hi : IM XR W X G tgt iter T fi)
    (ok : BlkOk X.N X.env.scope scope own) (ko : KeepOk G (own.map (·.2))) (tg : ∀ s H C cl fp, Tgt (Blk X scope s H C cl fp) tgt T G G1 put (own.map (·.2)))
    (tt : ∀ s H C cl fp, TM XR W0 (Blk X scope s H C cl fp) p1 G1 c ft)
    (te : ∀ s H C cl fp, EM XR W0 (Blk X scope s H C cl fp) p G1 elt (fz U) fe) (bo : BackOk G1 G back) (hs : ∀ x, foldedSetIterable iter X.env x = pure x := by intro _; rfl) :
    SM XR W X Rr Gb G (.Assign [.Name y py] (.ListComp elt [⟨tgt, iter, [c], 0⟩] scope pos) spos) G' (fun s => ((fi s).bind fun r => mComp (fun x s => (ft (put s x)).bind fun b => if b.1 then (fe b.2).bind fun q => .ok (some q.1, back q.2) else .ok (none, back b.2)) r.1 r.2).out fun r => .nx (put' r.2 r.1)) := by
  obtain ⟨wi, g, t1, t2, h1, h2, h3, h4, h⟩ := em_lcG (ft := ft) (ifs := [c]) hc hN hi ok ko tg (fun s H C cl fp => by
    obtain ⟨t, ht, h⟩ := tt s H C cl fp
    refine ⟨_, pts_one ht, fun s F σ H A Q g k w => h s F σ H A Q g k ?_⟩
    cases q : ft s with
    | bad => rw [q] at w; exact w
    | er ex => rw [q] at w; exact w
    | ok r => obtain ⟨b, s'⟩ := r; rw [q] at w; exact fun F' H' A' h1 h2 _ => w F' H' A' h1 h2 (fun z => by cases z)) te bo hs
  refine ⟨_, ps_setLc hc hN hy hyl hsw h1 ok h2 h3 h4 hs, fun s F σ H A D gg k w => h s F σ H A _ gg k (WPE.bindS (p1 := false) w fun y s1 v F1 H1 B A1 r1 g1 e1 w => ?_)⟩
  obtain ⟨o, L, C, R', q1, q2, _, st⟩ := at_.at_ s1 F1 σ A1 g1
  subst q2
  exact w F1 _ H1 _ (st F1 (some v) y B (Same.refl _) ⟨v, rfl, r1⟩) e1.store
end

/-! ### a def by its body -/
structure AnyG {S : Type} (G : Ctx S) (d : S) (n : Nat) : Prop where
  a : ∀ F, G.P d F (List.replicate n none) []
theorem any_nil : AnyG gnil () 0 := ⟨fun F => ⟨rfl, rfl⟩⟩
theorem any_cons {S : Type} {G : Ctx S} {d : S} {n : Nat} {x : α} (h : AnyG G d n) : AnyG (gcons sAny G) (x, d) (n + 1) := ⟨fun F => ⟨none, List.replicate n none, [], [], rfl, rfl, trivial, h.a F⟩⟩
structure StartG {P S : Type} (Z : RA P) (G : Ctx S) (m n : Nat) (init : P → S) : Prop where
  st : ∀ F vs y A, Z.P F vs y A → G.P (init y) F (vs.map some ++ List.replicate n none) A ∧ vs.length = m
@[irreducible] def iS {P S : Type} (init : P → S) : α × P → α × S := fun y => (y.1, init y.2)
@[irreducible] def iZ {P S : Type} (d : S) : P → S := fun _ => d
theorem iS_eq {P S : Type} (init : P → S) (x : α) (y : P) : iS init (x, y) = (x, init y) := by unfold iS; rfl
theorem iZ_eq {P S : Type} (d : S) (y : P) : iZ d y = d := by unfold iZ; rfl
theorem st_nil {S : Type} {G : Ctx S} {d : S} {n : Nat} (h : AnyG G d n) : StartG anil G 0 n (iZ d) := by
  unfold iZ
  exact ⟨fun F vs y A ⟨e1, e2⟩ => by subst e1 e2; exact ⟨h.a F, rfl⟩⟩
theorem st_cons {P S : Type} {Z : RA P} {G : Ctx S} {m n : Nat} {init : P → S} {R : Rl α} (h : StartG Z G m n init) : StartG (acons R Z) (gcons (sR R) G) (m + 1) n (iS init) := by
  unfold iS
  exact ⟨fun F vs y A ⟨v, r, B, C, e1, e2, h1, h2⟩ => by
  subst e1 e2
  obtain ⟨g, hl⟩ := h.st F r y.2 C h2
  exact ⟨⟨some v, _, B, C, rfl, rfl, ⟨v, rfl, h1⟩, g⟩, by rw [List.length_cons, hl]⟩⟩
/-- what stands behind the body's last statement -/
structure FallOk {S : Type} (G : Ctx S) (Rr : Rl ρ) (fall : S → Res ρ) : Prop where
  f : ∀ s F σ A r, fall s = .ok r → G.P s F σ A → ∃ A', A'.Sublist A ∧ Rr.P F .non r A'
  ne : ∀ s ex, fall s ≠ .er ex
theorem fall_bad {S : Type} {G : Ctx S} {Rr : Rl ρ} : FallOk G Rr (fun _ => .bad) := ⟨fun _ _ _ _ _ h => (by cases h), fun _ _ h => (by cases h)⟩
theorem fn_ok {P : Program} {w : World} {K : PySem.W.Frag} {mg : Str → Option Value} {base : Heap} {x qual : Str} {st : Stmt} {f : Addr} {fd : FuncData} {N ps : List Str} {k : Nat} {ι P' S0 S1 : Type} {Z : ι → RA P'} {R : ι → Rl ρ} {G0 : ι → Ctx S0} {G1 : ι → Ctx S1} {init : P' → S0} {fb : S0 → Out S1 Unit ρ} {fall : S1 → Res ρ}
    (F : Fun K x qual st f fd) (S : FnScope N ps (defScope st)) {m n : Nat} (hm : ps.length = m) (hn : N.length - m = n) (start : ∀ i, StartG (Z i) (G0 i) m n init) (hf : ∀ i, FallOk (G1 i) (R i) fall)
    (body : ∀ (i : ι) (cdv : Value) (A : Around) (outer : List Env) (s : Shared) (H : Hp) (E : XK), Room k (A.deeper (envOfC qual (defScope st) s.heap.objs.size f cdv)) →
      SS XR (fun cls d _ H => E cls d H) (cxOf (L2.CX P w) P w K mg base N qual (defScope st) f cdv A outer s H E) (R i) gnil (G0 i) (defBody st) (G1 i) fb) :
    FnOk P w K mg base (L2.CX P w) (k + 1) f fd ps (spF XR Z R (fun y => (fb (init y)).res fall)) := by
  refine F.okX S (fun vs H Q E h => ?_) (fun cdv A outer s H vs Q E hr h => ?_)
  · obtain ⟨i, y, F', A', hz, _⟩ := h
    rw [((start i).st _ _ _ _ hz).2, hm]
  · obtain ⟨i, y, F', A', hz, hh, w'⟩ := h
    obtain ⟨g, hl⟩ := (start i).st _ _ _ _ hz
    obtain ⟨t, ht, hb⟩ := body i cdv A outer s H E hr
    dsimp only at w'
    refine ⟨t, ht, hb (init y) F' _ H A' _ (by unfold L2.start; rw [hl, hn]; exact g) hh ?_⟩
    cases q : fb (init y) with
    | bad => rw [q] at w'; exact w'
    | bk l => rw [q] at w'; exact w'.elim
    | ct l => rw [q] at w'; exact w'.elim
    | er ex => rw [q] at w'; exact fun cls oe F' H' σ' A' h1 h2 => w' cls oe F' H' A' h1 h2
    | rt r => rw [q] at w'; exact fun v F' H' A' h1 h2 => w' v F' H' A' h1 h2
    | nx s1 =>
      rw [q] at w'
      intro F1 σ1 H1 A1 g1 e1
      rw [Out.res_nx] at w'
      cases q2 : fall s1 with
      | bad => rw [q2] at w'; exact w'.elim
      | er ex => exact absurd q2 ((hf i).ne _ _)
      | ok r =>
        rw [q2] at w'
        obtain ⟨A2, sb, hr2⟩ := (hf i).f s1 F1 σ1 A1 r q2 g1
        exact w' .non F1 H1 A2 hr2 (e1.sub sb)
end
end TC
namespace TC
open PySem PySem.Spec PyProof.Rows L2

/-! ### records -/
structure FR (α : Type) where
  R : Hp → List (Str × V) → α → Prop
  mono : ∀ {F F' fs x}, R F fs x → Same F F' → R F' fs x
  n : Nat
  len : ∀ {F fs x}, R F fs x → fs.length ≤ n
def frNil : FR Unit := ⟨fun _ fs _ => fs = [], fun h _ => h, 0, fun h => by rw [h]; exact Nat.le_refl _⟩
def frC {α β : Type} (fr : FR α) (g : Str) (T : Ty β) : FR (α × β) := ⟨fun F fs x => ∃ fs0 v, fs = putF g v fs0 ∧ fr.R F fs0 x.1 ∧ T.R F v x.2, fun ⟨fs0, v, e, h1, h2⟩ s => ⟨fs0, v, e, fr.mono h1 s, T.mono h2 s⟩, fr.n + 1,
  fun ⟨fs0, v, e, h1, h2⟩ => by rw [e]; exact Nat.le_trans (length_putF _ _ _) (Nat.succ_le_succ (fr.len h1))⟩
structure Has {α β : Type} (fr : FR α) (g : Str) (T : Ty β) (proj : α → β) : Prop where
  h : ∀ F fs x, fr.R F fs x → ∃ v, fs.lookup g = some v ∧ T.R F v (proj x)
structure HasNo {α : Type} (fr : FR α) (g : Str) : Prop where
  h : ∀ F fs x, fr.R F fs x → fs.lookup g = none
theorem has_z {α β : Type} {fr : FR α} {g : Str} {T : Ty β} : Has (frC fr g T) g T (fun x => x.2) := ⟨fun F fs x ⟨fs0, v, e, h1, h2⟩ => ⟨v, by rw [e, lookup_putF, if_pos rfl], h2⟩⟩
theorem has_s {α β γ : Type} {fr : FR α} {g g' : Str} {T : Ty β} {U : Ty γ} {proj : α → β} (ne : ¬ g = g') (h : Has fr g T proj) : Has (frC fr g' U) g T (fun x => proj x.1) := ⟨fun F fs x ⟨fs0, v, e, h1, h2⟩ => by
  obtain ⟨v', q, r⟩ := h.h F fs0 x.1 h1
  exact ⟨v', by rw [e, lookup_putF, if_neg ne]; exact q, r⟩⟩
theorem hn_z {g : Str} : HasNo frNil g := ⟨fun F fs x h => by rw [show fs = [] from h]; rfl⟩
theorem hn_s {α γ : Type} {fr : FR α} {g g' : Str} {U : Ty γ} (ne : ¬ g = g') (h : HasNo fr g) : HasNo (frC fr g' U) g := ⟨fun F fs x ⟨fs0, v, e, h1, h2⟩ => by rw [e, lookup_putF, if_neg ne]; exact h.h F fs0 x.1 h1⟩
def tIns {α : Type} (C : Addr) (fr : FR α) : Ty α := ⟨fun F v x => ∃ a dx fs, v = .ref a ∧ F a = some (.ins C dx fs) ∧ fr.R F fs x, fun ⟨a, dx, fs, e, q, r⟩ s => ⟨a, dx, fs, e, s _ _ q, fr.mono r s⟩⟩
def oInsA {α : Type} (C a : Addr) (fr : FR α) : Rl α := ⟨fun F v x A => v = .ref a ∧ ∃ dx fs, A = [(a, .ins C dx fs)] ∧ fr.R F fs x, fun ⟨e, dx, fs, q, r⟩ s => ⟨e, dx, fs, q, fr.mono r s⟩⟩
/-- what an __init__ hands back -/
def rIni {α : Type} (C a : Addr) (fr : FR α) : Rl α := ⟨fun F v x A => v = .non ∧ ∃ dx fs, A = [(a, .ins C dx fs)] ∧ fr.R F fs x, fun ⟨e, dx, fs, q, r⟩ s => ⟨e, dx, fs, q, fr.mono r s⟩⟩
/-- a wish that does not look at the slots -/
structure WC (W : WX) (E : XK) : Prop where
  w : ∀ cls d σ H, W cls d σ H ↔ E cls d H
theorem wc_fn {E : XK} : WC (fun cls d _ H => E cls d H) E := ⟨fun _ _ _ _ => Iff.rfl⟩
theorem wc_0 : WC W0 (fun _ _ _ => False) := ⟨fun _ _ _ _ => Iff.rfl⟩

section
variable {XR : XRel} {W : WX} {X : Cx} {S S' S2 S3 L L1 L2' ρ P : Type} {G : Ctx S} {G' : Ctx S'} {G2 : Ctx S2} {G3 : Ctx S3} {Gl : Ctx L} {G1 : Ctx L1} {Gb : Ctx L2'} {α β γ ι : Type} {e a b c : Expr} {es : List Expr} {st : Stmt} {sts sts' : List Stmt} {pos : Pos} {p p1 p2 p3 : Bool} {Rr : Rl ρ}

theorem em_fld {fr : FR α} {g : Str} {T : Ty β} {proj : α → β} {C : Addr} {f : S → Res (α × S)} (h : EM XR W X p G e (fz (tIns C fr)) f) (hs : Has fr g T proj) (cl : Cls X.K C) (na : NoAttr X.K C g) (hb : attributeBase e g X.env (eval e X.env) = eval e X.env := by rfl) :
    EM XR W X p G (.Attribute e g pos) (fz T) (fun s => (f s).bind fun r => .ok (proj r.1, r.2)) := by
  obtain ⟨t, ht, h⟩ := h
  refine ⟨_, pe_fld ht hb, fun s F σ H A Q gg k w => h s F σ H A _ gg k (WPE.bind w fun x s1 v F1 H1 B A1 ⟨rB, a, dx, fs, ev, q, r⟩ g1 e1 q1 w => ?_)⟩
  subst rB
  obtain ⟨u, l, ru⟩ := hs.h _ _ _ r
  exact ⟨a, C, dx, fs, u, ev, e1.holds.fz _ _ q, cl, na, l, w u F1 H1 [] A1 ⟨rfl, ru⟩ g1 e1 q1⟩
/-- self.g = value, in an __init__ -/
theorem sm_fldNew {fr : FR α} {g : Str} {T : Ty β} {C ad : Addr} {f : S → Res (β × S)} {i : Nat} {x : Str} {pp pos' : Pos} {get : S → α} {put : S → α × β → S'} (hN : X.N[i]? = some x) (hv : Vis X.env.scope x) (at_ : At G i (sR (oInsA C ad fr)) get (sR (oInsA C ad (frC fr g T))) G' put) (h : EM XR W X p G e (fz T) f)
    (cl : Cls X.K C) (na : NoAttr X.K C g) (hn : fr.n < 1000) (hs : swapsWith e (some (.Attribute (.Name x pp) g pos')) pos.line X.env = pure false := by rfl)
    (hd : (x == ("__debug__" : Str)) = false := by decide) (hcd : (x == ("__classdict__" : Str)) = false := by decide) :
    SM XR W X Rr Gb G (.Assign [.Attribute (.Name x pp) g pos'] e pos) G' (fun s => (f s).out fun r => .nx (put r.2 (get r.2, r.1))) := by
  obtain ⟨t, ht, h⟩ := h
  refine ⟨_, ps_fld (pe_var hN hv hd hcd) ht hs, fun s F σ H A D gg k w => h s F σ H A _ gg k (WPE.bindS (p1 := p) w fun y s1 v F1 H1 B A1 ⟨rB, r1⟩ g1 x1 w => ?_)⟩
  subst rB
  obtain ⟨o, L, B, R', e1, e2, ⟨u, rfl, rfl, dx, fs, e4, r⟩, st⟩ := at_.at_ s1 F1 σ A1 g1
  subst e4 e2
  have hl : H1 ad = some (.ins C dx fs) := (x1.holds.ow (ad, .ins C dx fs) (by simp)).2
  have hw : Ext F1 H1 [(ad, .ins C dx fs)] F1 (upd H1 ad (.ins C dx (putF g v fs))) [(ad, .ins C dx (putF g v fs))] := Ext.write (x1.holds.sub ((List.sublist_append_left _ _).trans (List.sublist_append_right _ _)))
  have gg := st F1 (some (.ref ad)) (get s1, y) [(ad, .ins C dx (putF g v fs))] (Same.refl _) ⟨.ref ad, rfl, rfl, dx, _, rfl, fs, v, rfl, r, r1⟩
  rw [set_same e1] at gg
  exact ⟨.ref ad, e1, ad, C, dx, fs, rfl, hl, cl, na, Nat.lt_of_le_of_lt (fr.len r) hn, w F1 σ _ _ gg (x1.trans (Ext.frameMid (L := L) (A := [(ad, .ins C dx fs)]) (R := R') x1.holds hw))⟩
theorem fall_ini {fr : FR α} {C ad : Addr} {i : Nat} {get : S → α} {put : S → α → S} (at_ : At G i (sR (oInsA C ad fr)) get (sR (oInsA C ad fr)) G put) : FallOk G (rIni C ad fr) (fun s => .ok (get s)) := ⟨fun s F σ A r er g => by
  cases er
  obtain ⟨o, L, B, R', e1, e2, ⟨u, rfl, rfl, dx, fs, e4, r⟩, st⟩ := at_.at_ s F σ A g
  subst e4 e2
  exact ⟨[(ad, .ins C dx fs)], (List.sublist_append_left _ _).trans (List.sublist_append_right _ _), rfl, dx, fs, rfl, r⟩, fun s ex h => by cases h⟩
abbrev spI {P : Type} (XR : XRel) (C : Addr) (fr : FR α) (Z : RA P) (m : Unit × P → Res α) : Sp := spF XR (fun a : Addr => acons (oInsA C a frNil) Z) (fun a => rIni C a fr) m
/-- C(..), an own class -/
theorem em_make {E : XK} {fr : FR α} {C fi : Addr} {k : Nat} {fd : FuncData} {ps : List Str} {x : Str} {pp : Pos} {Z : RA P} {m : Unit × P → Res α} {fargs : S → Res (P × S)} (tk : Takes X W) (wc : WC W E) (M : Mk X.K C fi) (Fk : FnOk X.prog X.w X.K X.mg X.base (L2.CX X.prog X.w) k fi fd ps (spI XR C fr Z m)) (hr : Room (k + 1) X.A) (hg : L2.Gl X x) (hm : X.mg x = some (.ref C)) (hb : Binds X.K fd ps [])
    (ha : AM XR W X p G (e :: es) Z fargs) (hdb : (x == ("__debug__" : Str)) = false := by decide) (he : starEach (e :: es) X.env = (false, eval e X.env) :: starEach es X.env := by rfl) (hpl : (backTo pos (starEach es X.env)).any (·.1) = false := by rfl) :
    EM XR W X p G (.Call (.Name x pp) (e :: es) [] pos) (fz (tIns C fr)) (fun s => (fargs s).bind fun r1 => (m ((), r1.1)).bind fun z => .ok (z, r1.2)) := by
  obtain ⟨t, ht, h⟩ := ha
  refine ⟨_, pe_make (dvs := []) M Fk hr hg hm hb .nil (passes_call tk fun cls d σ H q => (wc.w cls d σ H).mpr q) ht hdb he hpl, fun s F σ H A Q g kk w => h s F σ H A _ g kk (WPA.bindE w fun y s1 vs F1 H1 B A1 r1 g1 e1 q1 w => ?_)⟩
  intro ax dx hx hdx ne
  have n2 : upd H1 dx (.own ax) ax = none := by rw [upd_ne ne.symm]; exact hx
  have k1 : Ext F1 H1 (B ++ A1) F1 (upd H1 dx (.own ax)) (B ++ A1) := (Ext.newO e1.holds hdx).sub (List.sublist_cons_self _ _)
  have k2 : Ext F1 H1 (B ++ A1) F1 (upd (upd H1 dx (.own ax)) ax (.ins C dx [])) ((ax, .ins C dx []) :: (B ++ A1)) := k1.trans (Ext.newO k1.holds n2)
  rw [List.append_nil]
  refine ⟨ax, ((), y), F1, (ax, .ins C dx []) :: B, ⟨.ref ax, vs, [(ax, .ins C dx [])], B, rfl, rfl, ⟨rfl, dx, [], rfl, rfl⟩, r1⟩, k2.holds.sub (List.Sublist.cons_cons _ (List.sublist_append_left _ _)), ?_⟩
  cases q : m ((), y) with
  | bad => dsimp only at w; rw [q] at w; exact w.elim
  | er ex =>
    dsimp only at w
    rw [q] at w
    exact fun cls oe F' H' A' h1 h2 => (wc.w cls oe σ H').mp (w cls oe F' H' (A' ++ A1) h1 ((e1.trans k2).trans (Ext.frame (A := (ax, .ins C dx []) :: B) (B := A1) k2.holds h2)))
  | ok z =>
    dsimp only at w
    rw [q] at w
    rintro v F' H' A' ⟨rfl, dx', fs', rfl, rz⟩ h2
    refine ⟨rfl, ?_⟩
    have fr1 := Ext.frame (A := (ax, .ins C dx []) :: B) (B := A1) k2.holds h2
    have fz1 : Ext F' H' ((ax, .ins C dx' fs') :: A1) (upd F' ax (.ins C dx' fs')) H' A1 := Ext.freeze fr1.holds
    exact w _ _ H' [] A1 ⟨rfl, ax, dx', fs', rfl, upd_same, fr.mono rz fz1.fz⟩ (G.mono (G.mono g1 h2.fz) fz1.fz) (((e1.trans k2).trans fr1).trans fz1) q1

/-! ### list concatenation, repetition -/
theorem em_catL {T : Ty α} {fa fb : S → Res (List α × S)} (ha : EM XR W X p1 G a (fz (tLst T)) fa) (hb : EM XR W X p2 G b (fz (tLst T)) fb) :
    EM XR W X (p1 && p2) G (.BinOp a .Add b pos) (oL T) (fun s => (fa s).bind fun r1 => (fb r1.2).bind fun r2 => (mCat r1.1 r2.1).bind fun z => .ok (z, r2.2)) :=
  em_op2 (T1 := tLst T) (T2 := tLst T) (g := mCat) (fun _ _ => pe_op op_cat) (fun F H v u x y Q ⟨a, vs, ev, q, r⟩ ⟨b, us, eu, q', r'⟩ s h nb _ => by
    unfold mCat at h nb
    by_cases hz : x.length + y.length ≤ sizeLine
    · rw [if_pos hz] at h
      exact ⟨a, b, vs, us, ev, eu, s _ _ q, s _ _ q', by rw [r.length, r'.length]; exact hz, fun p n => lay_list (r.append r') s n (h _ rfl)⟩
    · rw [if_neg hz] at nb; exact absurd rfl nb) (fun x y ex => by unfold mCat; exact ifne) ha hb
def mRep {α : Type} (xs : List α) (k : Int) : Res (List α) := if -(2 ^ 63) ≤ k ∧ k < 2 ^ 63 ∧ xs.length * k.toNat ≤ sizeLine then .ok (List.replicate k.toNat xs).flatten else .bad
theorem All2.rep {R : V → α → Prop} {vs : List V} {xs : List α} (h : All2 R vs xs) : ∀ n, All2 R (List.replicate n vs).flatten (List.replicate n xs).flatten
  | 0 => trivial
  | n + 1 => by
    rw [List.replicate_succ, List.replicate_succ, List.flatten_cons, List.flatten_cons]
    exact h.append (All2.rep h n)

/-! ### isinstance -/
theorem em_isC {T : Ty α} {nm : String} {y : Str} {pp pq : Pos} {g : α → Bool} {f : S → Res (α × S)} (hg : L2.Gl X "isinstance") (hm : X.mg "isinstance" = none) (hgy : L2.Gl X y) (hmy : X.mg y = none) (hvy : bootBuiltins y = some (.type nm))
    (ty : ∀ F H v x, T.R F v x → Same F H → ∃ t, TyX X.K H v t ∧ PySem.W.kitOne X.K t (.type nm) = some (g x)) (h : EM XR W X p G e (fz T) f)
    (hs : starEach [e, .Name y pq] X.env = (false, eval e X.env) :: starEach [.Name y pq] X.env := by rfl) (hs2 : starEach [.Name y pq] X.env = [(false, eval (.Name y pq) X.env)] := by rfl) (hpl : (backTo pos (starEach [.Name y pq] X.env)).any (·.1) = false := by rfl)
    (hn : y ≠ "__name__" := by decide) (hd : (y == ("__debug__" : Str)) = false := by decide) :
    EM XR W X p G (.Call (.Name "isinstance" pp) [e, .Name y pq] [] pos) (fz tBool) (fun s => (f s).bind fun r => .ok (g r.1, r.2)) := by
  obtain ⟨t, ht, h⟩ := h
  refine ⟨_, pe_callB call_isi hg hm (by decide +kernel) (pa_cons ht (pa_cons (pe_bltn (v := .ty nm) hgy hmy hvy rfl hn hd) pa_nil hs2) hs) (he := hs) (hpl := hpl), fun s F σ H A Q gg k w => h s F σ H A _ gg k (WPE.bind w fun x s1 v F1 H1 B A1 ⟨rB, r1⟩ g1 e1 q1 w => ?_)⟩
  subst rB
  obtain ⟨tt, h1, h2⟩ := ty F1 H1 v x r1 e1.holds.fz
  exact ⟨v, .ty nm, tt, .type nm, g x, rfl, .ty nm, h1, h2, w _ F1 H1 [] A1 ⟨rfl, rfl⟩ g1 e1 q1⟩
theorem is_lst {K : PySem.W.Frag} {T : Ty α} : ∀ F H v (x : List α), (tLst T).R F v x → Same F H → ∃ t, TyX K H v t ∧ PySem.W.kitOne K t (.type "list") = some true := fun F H v x ⟨a, vs, e, q, r⟩ s => ⟨.type "list", by rw [e]; exact .base (.lst (s _ _ q)), kit_ty (by decide +kernel)⟩
theorem is_tup {K : PySem.W.Frag} {T : Ty α} : ∀ F H v (x : List α), (tTup T).R F v x → Same F H → ∃ t, TyX K H v t ∧ PySem.W.kitOne K t (.type "tuple") = some true := fun F H v x ⟨a, vs, e, q, r⟩ s => ⟨.type "tuple", by rw [e]; exact .base (.tup (s _ _ q)), kit_ty (by decide +kernel)⟩
theorem is_bool {K : PySem.W.Frag} : ∀ F H v (x : Bool), tBool.R F v x → Same F H → ∃ t, TyX K H v t ∧ PySem.W.kitOne K t (.type "bool") = some true := fun F H v x e s => ⟨.type "bool", by rw [show v = .bl x from e]; exact .base (.bl x), kit_ty (by decide +kernel)⟩
theorem is_optL {K : PySem.W.Frag} {T : Ty α} : ∀ F H v (x : Option (List α)), (tOpt (tLst T)).R F v x → Same F H → ∃ t, TyX K H v t ∧ PySem.W.kitOne K t (.type "list") = some x.isSome := fun F H v x r s => by
  cases x with
  | none => exact ⟨.type "NoneType", by rw [show v = .non from r]; exact .base .non, kit_ty (show kitB "NoneType" "list" = some false by decide +kernel)⟩
  | some y => obtain ⟨_, a, vs, e, q, r⟩ := r; exact ⟨.type "list", by rw [e]; exact .base (.lst (s _ _ q)), kit_ty (show kitB "list" "list" = some true by decide +kernel)⟩

/-! ### data -/
def eqInt {K : PySem.W.Frag} : EqT K tInt := ⟨PyData.int, fun r => by rw [show _ = V.int _ from r]; exact .int _, fun _ => rfl, 0, fun _ => Nat.le_refl _, fun x y => by rw [PyData.eqv]; exact Bool.beq_eq_decide_eq x y⟩
theorem eqvAll_map {K : PySem.W.Frag} {T : Ty α} [DecidableEq α] (c : EqT K T) : ∀ xs ys : List α, PyData.eqvAll (xs.map c.enc) (ys.map c.enc) = decide (xs = ys)
  | [], [] => by simp [PyData.eqvAll]
  | [], _ :: _ => by simp [PyData.eqvAll]
  | _ :: _, [] => by simp [PyData.eqvAll]
  | x :: xs, y :: ys => by
    rw [List.map_cons, List.map_cons, PyData.eqvAll, c.eqv, eqvAll_map c xs ys, Bool.eq_iff_iff]
    simp
theorem dpAll_of {K : PySem.W.Frag} {T : Ty α} [DecidableEq α] (c : EqT K T) {H : Hp} : ∀ {vs : List V} {xs : List α}, All2 (T.R H) vs xs → DpAll K H vs (xs.map c.enc) ∧ PyData.canLayAll0 (xs.map c.enc) = true
  | [], [], _ => ⟨.nil, by simp [PyData.canLayAll0]⟩
  | _ :: _, _ :: _, h => by
    obtain ⟨h1, h2⟩ := dpAll_of c h.2
    exact ⟨.cons (c.dp h.1) h1, by rw [List.map_cons, PyData.canLayAll0, c.lay h.1, h2]; rfl⟩
  | [], _ :: _, h => h.elim
  | _ :: _, [], h => h.elim
theorem depthAll_le {f : α → PyData} {d : Nat} (h : ∀ x, (f x).depth ≤ d) : ∀ xs : List α, PyData.depthAll (xs.map f) ≤ d
  | [] => by simp [PyData.depthAll]
  | x :: xs => by
    rw [List.map_cons, PyData.depthAll]
    exact Nat.max_le.mpr ⟨h x, depthAll_le h xs⟩
def eqLst {K : PySem.W.Frag} {T : Ty α} [DecidableEq α] (c : EqT K T) : EqT K (tLst T) := ⟨fun xs => .list (xs.map c.enc), fun ⟨a, vs, e, q, r⟩ => by rw [e]; exact .lst (SqL.of q) (dpAll_of c r).1, fun ⟨a, vs, e, q, r⟩ => by rw [PyData.canLay0]; exact (dpAll_of c r).2,
  c.d + 1, fun xs => by rw [PyData.depth]; exact Nat.succ_le_succ (depthAll_le c.dep xs), fun x y => by rw [PyData.eqv]; exact eqvAll_map c x y⟩
def eqTup {K : PySem.W.Frag} {T : Ty α} [DecidableEq α] (c : EqT K T) : EqT K (tTup T) := ⟨fun xs => .tuple (xs.map c.enc), fun ⟨a, vs, e, q, r⟩ => by rw [e]; exact .tup (SqT.of q) (dpAll_of c r).1, fun ⟨a, vs, e, q, r⟩ => by rw [PyData.canLay0]; exact (dpAll_of c r).2,
  c.d + 1, fun xs => by rw [PyData.depth]; exact Nat.succ_le_succ (depthAll_le c.dep xs), fun x y => by rw [PyData.eqv]; exact eqvAll_map c x y⟩
def eqBool {K : PySem.W.Frag} : EqT K tBool := ⟨PyData.bool, fun r => by rw [show _ = V.bl _ from r]; exact .bl _, fun _ => rfl, 0, fun _ => Nat.le_refl _, fun x y => by rw [PyData.eqv]; exact Bool.beq_eq_decide_eq x y⟩
def eqP2 {K : PySem.W.Frag} {T : Ty α} {U : Ty β} [DecidableEq α] [DecidableEq β] (c : EqT K T) (d : EqT K U) : EqT K (tP2 T U) := ⟨fun x => .tuple [c.enc x.1, d.enc x.2],
  fun ⟨a, v1, v2, e, q, r1, r2⟩ => by rw [e]; exact .tup (SqT.of q) (.cons (c.dp r1) (.cons (d.dp r2) .nil)), fun ⟨a, v1, v2, e, q, r1, r2⟩ => by simp [PyData.canLay0, PyData.canLayAll0, c.lay r1, d.lay r2],
  max c.d d.d + 1, fun x => by
    have h1 := c.dep x.1
    have h2 := d.dep x.2
    simp only [PyData.depth, PyData.depthAll]
    omega,
  fun x y => by
    simp only [PyData.eqv, PyData.eqvAll, c.eqv, d.eqv]
    rw [Bool.eq_iff_iff]
    simp [Prod.ext_iff]⟩
def eqOpt {K : PySem.W.Frag} {T : Ty α} [DecidableEq α] (c : EqT K T) (nn : ∀ x, PyData.eqv .none (c.enc x) = false ∧ PyData.eqv (c.enc x) .none = false) : EqT K (tOpt T) := ⟨fun o => match o with | none => .none | some x => c.enc x,
  fun {H v x} r => by
    cases x with
    | none => rw [show v = .non from r]; exact .non
    | some y => exact c.dp r.2,
  fun {H v x} r => by
    cases x with
    | none => rfl
    | some y => exact c.lay r.2,
  c.d, fun x => by
    cases x with
    | none => exact Nat.zero_le _
    | some y => exact c.dep y,
  fun x y => by
    cases x with
    | none => cases y with
      | none => simp [PyData.eqv]
      | some y => rw [(nn y).1]; simp
    | some x => cases y with
      | none => rw [(nn x).2]; simp
      | some y => rw [c.eqv]; simp⟩

/-! ### dicts -/
section
variable {κ : Type} [DecidableEq κ]
def dGet (d : List (κ × β)) (k : κ) : Option β := (d.find? fun kv => decide (kv.1 = k)).map (·.2)
def dPut (d : List (κ × β)) (k : κ) (v : β) : List (κ × β) :=
  if (d.any fun kv => decide (kv.1 = k)) = true then d.map (fun kv => if kv.1 = k then (kv.1, v) else kv) else d ++ [(k, v)]
def AllK (enc : κ → Key) (R : V → β → Prop) : List (Key × V) → List (κ × β) → Prop
  | [], [] => True
  | p :: ps, q :: qs => p.1 = enc q.1 ∧ R p.2 q.2 ∧ AllK enc R ps qs
  | _, _ => False
variable {enc : κ → Key} {R R' : V → β → Prop}
theorem AllK.length : ∀ {ps : List (Key × V)} {qs : List (κ × β)}, AllK enc R ps qs → ps.length = qs.length
  | [], [], _ => rfl
  | _ :: _, _ :: _, h => congrArg (· + 1) (AllK.length h.2.2)
  | [], _ :: _, h => h.elim
  | _ :: _, [], h => h.elim
theorem AllK.imp (k : ∀ v x, R v x → R' v x) : ∀ {ps : List (Key × V)} {qs : List (κ × β)}, AllK enc R ps qs → AllK enc R' ps qs
  | [], [], _ => trivial
  | _ :: _, _ :: _, h => ⟨h.1, k _ _ h.2.1, AllK.imp k h.2.2⟩
  | [], _ :: _, h => h.elim
  | _ :: _, [], h => h.elim
theorem AllK.get (inj : ∀ x y, enc x = enc y → x = y) {k : κ} : ∀ {ps : List (Key × V)} {qs : List (κ × β)}, AllK enc R ps qs → (match dGet qs k with | none => valV ps (enc k) = none | some y => ∃ v, valV ps (enc k) = some v ∧ R v y)
  | [], [], _ => rfl
  | p :: ps, q :: qs, h => by
    by_cases e : q.1 = k
    · have e1 : dGet (q :: qs) k = some q.2 := by simp [dGet, e]
      rw [e1]
      exact ⟨p.2, valV_pos (by rw [h.1, e]), h.2.1⟩
    · have e1 : dGet (q :: qs) k = dGet qs k := by simp [dGet, e]
      rw [e1, valV_neg (by rw [h.1]; exact fun z => e (inj _ _ z))]
      exact AllK.get inj h.2.2
  | [], _ :: _, h => h.elim
  | _ :: _, [], h => h.elim
theorem AllK.anyK (inj : ∀ x y, enc x = enc y → x = y) {k : κ} : ∀ {ps : List (Key × V)} {qs : List (κ × β)}, AllK enc R ps qs → (ps.any fun kv => decide (kv.1 = enc k)) = (qs.any fun kv => decide (kv.1 = k))
  | [], [], _ => rfl
  | p :: ps, q :: qs, h => by
    rw [List.any_cons, List.any_cons, AllK.anyK inj h.2.2, h.1]
    exact congrArg (· || _) (dec_congr ⟨inj _ _, fun z => by rw [z]⟩)
  | [], _ :: _, h => h.elim
  | _ :: _, [], h => h.elim
theorem AllK.app {k : κ} {v : V} {y : β} (r : R v y) : ∀ {ps : List (Key × V)} {qs : List (κ × β)}, AllK enc R ps qs → AllK enc R (ps ++ [(enc k, v)]) (qs ++ [(k, y)])
  | [], [], _ => ⟨rfl, r, trivial⟩
  | p :: ps, q :: qs, h => ⟨h.1, h.2.1, AllK.app r h.2.2⟩
  | [], _ :: _, h => h.elim
  | _ :: _, [], h => h.elim
theorem AllK.mapK (inj : ∀ x y, enc x = enc y → x = y) {k : κ} {v : V} {y : β} (r : R v y) : ∀ {ps : List (Key × V)} {qs : List (κ × β)}, AllK enc R ps qs → AllK enc R (ps.map fun kv => if kv.1 = enc k then (kv.1, v) else kv) (qs.map fun kv => if kv.1 = k then (kv.1, y) else kv)
  | [], [], _ => trivial
  | p :: ps, q :: qs, h => by
    rw [List.map_cons, List.map_cons]
    by_cases e : q.1 = k
    · rw [if_pos e, if_pos (by rw [h.1, e])]
      exact ⟨h.1, r, AllK.mapK inj r h.2.2⟩
    · rw [if_neg e, if_neg (by rw [h.1]; exact fun z => e (inj _ _ z))]
      exact ⟨h.1, h.2.1, AllK.mapK inj r h.2.2⟩
  | [], _ :: _, h => h.elim
  | _ :: _, [], h => h.elim
theorem AllK.put (inj : ∀ x y, enc x = enc y → x = y) {k : κ} {v : V} {y : β} (r : R v y) {ps : List (Key × V)} {qs : List (κ × β)} (h : AllK enc R ps qs) : AllK enc R (putK ps (enc k) v) (dPut qs k y) := by
  unfold putK dPut
  rw [h.anyK inj]
  by_cases e : (qs.any fun kv => decide (kv.1 = k)) = true
  · rw [if_pos e, if_pos e]; exact h.mapK inj r
  · rw [if_neg e, if_neg e]; exact h.app r
end
/-- a dict whose keys are ints, owned -/
def oD {β : Type} (U : Ty β) : Rl (List (Int × β)) := ⟨fun F v x A => ∃ a kvs, v = .ref a ∧ A = [(a, .dK kvs)] ∧ AllK (fun i : Int => (Sum.inl i : Key)) (U.R F) kvs x, fun ⟨a, vs, e, q, r⟩ s => ⟨a, vs, e, q, AllK.imp (fun _ _ h => U.mono h s) r⟩⟩
theorem inl_inj : ∀ x y : Int, (Sum.inl x : Key) = Sum.inl y → x = y := fun _ _ h => Sum.inl.inj h
section
variable {U : Ty β} {i : Nat} {x : Str} {pp : Pos} {get : S → List (Int × β)} {put : S → List (Int × β) → S}
/-- {k: v} -/
theorem em_disp1 {fk : S → Res (Int × S)} {fv : S → Res (β × S)} (hk : EM XR W X p1 G a (fz tInt) fk) (hv : EM XR W X p2 G b (fz U) fv) :
    EM XR W X false G (.Dict [some a] [b] pos) (oD U) (fun s => (fk s).bind fun r => (fv r.2).bind fun q => .ok ([(r.1, q.1)], q.2)) := by
  obtain ⟨t, ht, h⟩ := hk
  obtain ⟨u, hu, h'⟩ := hv
  refine ⟨_, pe_disp (pps_cons ht hu pps_nil) rfl rfl (fun z => by cases z) (by show 1 ≤ 15; decide), fun s F σ H A Q g k w => ?_⟩
  intro d hd
  have k1 : Ext F H A F (upd H d (.dK [])) ((d, .dK []) :: A) := Ext.newO k hd
  have fr : ∀ {F1 H1 A1 F2 H2 A2}, Ext F H A F1 H1 ((d, HO.dK []) :: A1) → Ext F1 H1 A1 F2 H2 A2 → Ext F H A F2 H2 ((d, HO.dK []) :: A2) := fun {F1 H1 A1 F2 H2 A2} e1 e2 => by
    have hh : Holds F1 H1 (A1 ++ [(d, HO.dK [])]) := e1.holds.perm (List.perm_append_comm (l₁ := [(d, HO.dK [])]) (l₂ := A1))
    have z := (Ext.frame hh e2).permL (List.perm_append_comm (l₁ := A1) (l₂ := [(d, HO.dK [])]))
    exact e1.trans (z.perm (List.perm_append_comm (l₁ := A2) (l₂ := [(d, HO.dK [])])))
  refine h s F σ _ A _ g (k1.holds.sub (List.sublist_cons_self _ _)) ?_
  dsimp only at w
  cases q : fk s with
  | bad => rw [q] at w; exact w
  | er ex => rw [q] at w; exact fun cls oe F' H' A' h1 h2 => w cls oe F' H' _ h1 (fr k1 h2)
  | ok r =>
    obtain ⟨kk, s1⟩ := r
    rw [q] at w
    simp only [Res.bind_ok] at w
    rintro v F1 H1 B A1 ⟨rB, r1⟩ g1 e1 q1
    subst rB
    have r1 : v = .int kk := r1
    subst r1
    have e1' := fr k1 e1
    refine h' s1 F1 σ H1 A1 _ g1 e1.holds ?_
    cases q : fv s1 with
    | bad => rw [q] at w; exact w
    | er ex => rw [q] at w; exact fun cls oe F' H' A' h1 h2 => w cls oe F' H' _ h1 (fr e1' h2)
    | ok r =>
      obtain ⟨y, s2⟩ := r
      rw [q] at w
      rintro u F2 H2 B A2 ⟨rB, r2⟩ g2 e2 q2
      subst rB
      have e2' := fr e1' e2
      have hD : H2 d = some (.dK []) := (e2'.holds.ow (d, .dK []) List.mem_cons_self).2
      refine ⟨hD, [(Sum.inl kk, u)], rfl, by show 1 ≤ 15; decide, ?_⟩
      exact w _ F2 _ [(d, _)] A2 ⟨d, mergeK [] [(Sum.inl kk, u)], rfl, rfl, rfl, r2, trivial⟩ g2 (e2'.trans (Ext.write e2'.holds)) (fun z => by cases z)
/-- k in d, k not in d -/
theorem tm_din {f : S → Res (Int × S)} (hu : X.A.units + 1 < cLine) (hN : X.N[i]? = some x) (hv : Vis X.env.scope x) (at_ : At G i (sR (oD U)) get (sR (oD U)) G put) (h : EM XR W X p G a (fz tInt) f) (hb : behindInMarks .In (.Name x pp) = false := by rfl)
    (hd : (x == ("__debug__" : Str)) = false := by decide) (hcd : (x == ("__classdict__" : Str)) = false := by decide) :
    TM XR W X p G (.Compare a [.In] [.Name x pp] pos) (fun s => (f s).bind fun r => .ok ((dGet (get r.2) r.1).isSome, r.2)) := by
  obtain ⟨t, ht, h⟩ := h
  refine ⟨_, pt_cmp (pc_din hu ht (pe_var hN hv hd hcd)) hb, fun s F σ H A Q g k w => h s F σ H A _ g k (WPE.bindT w fun y s1 v F1 H1 B A1 ⟨rB, r1⟩ g1 e1 q1 w => ?_)⟩
  subst rB
  have r1 : v = .int y := r1
  subst r1
  obtain ⟨o, L, B, R', q1', q2, ⟨u, rfl, d, kvs, rfl, rfl, r⟩, _⟩ := at_.at_ s1 F1 σ A1 g1
  have hl : H1 d = some (.dK kvs) := (e1.holds.ow (d, .dK kvs) (by rw [q2]; simp)).2
  refine ⟨.ref d, q1', d, _, rfl, DGet.k (k := Sum.inl y) hl, (dGet (get s1) y).isSome, ?_, w F1 H1 A1 g1 e1 q1⟩
  have z := r.get inl_inj (k := y)
  cases q : dGet (get s1) y with
  | none => rw [q] at z; rw [show valV kvs (Sum.inl y) = none from z]; rfl
  | some b => rw [q] at z; obtain ⟨v', z, _⟩ := z; rw [z]; rfl
theorem tm_dnotin {f : S → Res (Int × S)} (hu : X.A.units + 1 < cLine) (hN : X.N[i]? = some x) (hv : Vis X.env.scope x) (at_ : At G i (sR (oD U)) get (sR (oD U)) G put) (h : EM XR W X p G a (fz tInt) f) (hb : behindInMarks .NotIn (.Name x pp) = false := by rfl)
    (hd : (x == ("__debug__" : Str)) = false := by decide) (hcd : (x == ("__classdict__" : Str)) = false := by decide) :
    TM XR W X p G (.Compare a [.NotIn] [.Name x pp] pos) (fun s => (f s).bind fun r => .ok (!(dGet (get r.2) r.1).isSome, r.2)) := by
  obtain ⟨t, ht, h⟩ := h
  refine ⟨_, pt_cmp (pc_dnotin hu ht (pe_var hN hv hd hcd)) hb, fun s F σ H A Q g k w => h s F σ H A _ g k (WPE.bindT w fun y s1 v F1 H1 B A1 ⟨rB, r1⟩ g1 e1 q1 w => ?_)⟩
  subst rB
  have r1 : v = .int y := r1
  subst r1
  obtain ⟨o, L, B, R', q1', q2, ⟨u, rfl, d, kvs, rfl, rfl, r⟩, _⟩ := at_.at_ s1 F1 σ A1 g1
  have hl : H1 d = some (.dK kvs) := (e1.holds.ow (d, .dK kvs) (by rw [q2]; simp)).2
  refine ⟨.ref d, q1', d, _, rfl, DGet.k (k := Sum.inl y) hl, !(dGet (get s1) y).isSome, ?_, w F1 H1 A1 g1 e1 q1⟩
  have z := r.get inl_inj (k := y)
  cases q : dGet (get s1) y with
  | none => rw [q] at z; rw [show valV kvs (Sum.inl y) = none from z]; rfl
  | some b => rw [q] at z; obtain ⟨v', z, _⟩ := z; rw [z]; rfl
def mDGet {κ β : Type} [DecidableEq κ] (d : List (κ × β)) (k : κ) : Res β := match dGet d k with
  | some y => .ok y
  | none => .bad
/-- d[k] -/
theorem em_dget {f : S → Res (Int × S)} (hu : X.A.units + 1 < cLine) (hN : X.N[i]? = some x) (hv : Vis X.env.scope x) (at_ : At G i (sR (oD U)) get (sR (oD U)) G put) (h : EM XR W X p G a (fz tInt) f) (hb : NoSl a)
    (hd : (x == ("__debug__" : Str)) = false := by decide) (hcd : (x == ("__classdict__" : Str)) = false := by decide) :
    EM XR W X p G (.Subscript (.Name x pp) a pos) (fz U) (fun s => (f s).bind fun r => (mDGet (get r.2) r.1).bind fun z => .ok (z, r.2)) := by
  obtain ⟨t, ht, h⟩ := h
  refine ⟨_, pe_dget hu (pe_var hN hv hd hcd) ht hb, fun s F σ H A Q g k w => ?_⟩
  obtain ⟨o, L, B, R', q1', q2, ⟨u, rfl, d, kvs, rfl, rfl, r⟩, _⟩ := at_.at_ s F σ A g
  refine ⟨.ref d, q1', h s F σ H A _ g k (WPE.bind w fun y s1 v F1 H1 B A1 ⟨rB, r1⟩ g1 e1 q1 w => ?_)⟩
  subst rB
  have r1 : v = .int y := r1
  subst r1
  obtain ⟨o, L', B, R2, q1'', q2', ⟨u, rfl, d', kvs', rfl, rfl, r'⟩, _⟩ := at_.at_ s1 F1 σ A1 g1
  rw [q1'] at q1''
  cases q1''
  have hl : H1 d = some (.dK kvs') := (e1.holds.ow (d, .dK kvs') (by rw [q2']; simp)).2
  have z := r'.get inl_inj (k := y)
  dsimp only at w
  unfold mDGet at w
  cases q : dGet (get s1) y with
  | none => rw [q] at w; exact w.elim
  | some b =>
    rw [q] at w z
    obtain ⟨v', z, rz⟩ := z
    exact ⟨d, v', rfl, z ▸ DGet.k (k := Sum.inl y) hl, w v' F1 H1 [] A1 ⟨rfl, rz⟩ g1 e1 q1⟩
/-- d.get(k, None) -/
theorem em_dgetN {f : S → Res (Int × S)} {ap cp np : Pos} {j : Nat} (hu : X.A.units + 1 < cLine) (hN : X.N[i]? = some x) (hv : Vis X.env.scope x) (at_ : At G i (sR (oD U)) get (sR (oD U)) G put) (h : EM XR W X p G a (fz tInt) f) (nn : ∀ F v y, U.R F v y → v ≠ .non)
    (m : M2 X (.Name x pp) "get" ap a (.Constant .none j np) cp)
    (hd : (x == ("__debug__" : Str)) = false := by decide) (hcd : (x == ("__classdict__" : Str)) = false := by decide) :
    EM XR W X p G (.Call (.Attribute (.Name x pp) "get" ap) [a, .Constant .none j np] [] cp) (fz (tOpt U)) (fun s => (f s).bind fun r => .ok (dGet (get r.2) r.1, r.2)) := by
  obtain ⟨t, ht, h⟩ := h
  refine ⟨_, pe_dget2 hu (pe_var hN hv hd hcd) ht pe_non m, fun s F σ H A Q g k w => ?_⟩
  obtain ⟨o, L, B, R', q1', q2, ⟨u, rfl, d, kvs, rfl, rfl, r⟩, _⟩ := at_.at_ s F σ A g
  have hl0 : H d = some (.dK kvs) := (k.ow (d, .dK kvs) (by rw [q2]; simp)).2
  refine ⟨.ref d, q1', d, rfl, .inl ⟨kvs, .inl hl0⟩, h s F σ H A _ g k (WPE.bind w fun y s1 v F1 H1 B A1 ⟨rB, r1⟩ g1 e1 q1 w => ?_)⟩
  subst rB
  have r1 : v = .int y := r1
  subst r1
  obtain ⟨o, L', B, R2, q1'', q2', ⟨u, rfl, d', kvs', rfl, rfl, r'⟩, _⟩ := at_.at_ s1 F1 σ A1 g1
  rw [q1'] at q1''
  cases q1''
  have hl : H1 d = some (.dK kvs') := (e1.holds.ow (d, .dK kvs') (by rw [q2']; simp)).2
  have z := r'.get inl_inj (k := y)
  refine ⟨_, DGet.k (k := Sum.inl y) hl, w _ F1 H1 [] A1 ⟨rfl, ?_⟩ g1 e1 q1⟩
  cases q : dGet (get s1) y with
  | none => rw [q] at z; rw [show valV kvs' (Sum.inl y) = none from z]; rfl
  | some b => rw [q] at z; obtain ⟨v', z, rz⟩ := z; rw [z]; exact ⟨nn _ _ _ rz, rz⟩
def mDPut {κ β : Type} [DecidableEq κ] (d : List (κ × β)) (k : κ) (v : β) : Res (List (κ × β)) := if d.length < sizeLine then .ok (dPut d k v) else .bad
/-- d[k] = v -/
theorem sm_dput {f : S → Res (Int × S)} {fv : S → Res (β × S)} {sp : Pos} (hu : X.A.units + 1 < cLine) (hN : X.N[i]? = some x) (hv : Vis X.env.scope x) (at_ : At G i (sR (oD U)) get (sR (oD U)) G put) (h : EM XR W X p1 G a (fz tInt) f) (h' : EM XR W X p2 G e (fz U) fv)
    (hs : swapsWith e (some (.Subscript (.Name x pp) a sp)) pos.line X.env = pure false := by rfl)
    (hd : (x == ("__debug__" : Str)) = false := by decide) (hcd : (x == ("__classdict__" : Str)) = false := by decide) :
    SM XR W X Rr Gb G (.Assign [.Subscript (.Name x pp) a sp] e pos) G (fun s => (fv s).out fun r => (f r.2).out fun q => (mDPut (get q.2) q.1 r.1).out fun z => .nx (put q.2 z)) := by
  obtain ⟨t, ht, h⟩ := h
  obtain ⟨u, hu', h'⟩ := h'
  refine ⟨_, ps_dput hu (pe_var hN hv hd hcd) ht hu' hs, fun s F σ H A D g k w => h' s F σ H A _ g k (WPE.bindS (p1 := p2) w fun y s1 v F1 H1 B1 A1 ⟨rB, r1⟩ g1 x1 w => ?_)⟩
  subst rB
  obtain ⟨o, L, B, R', q1', q2, ⟨u, rfl, d, kvs, rfl, rfl, r⟩, _⟩ := at_.at_ s1 F1 σ A1 g1
  refine ⟨.ref d, q1', h s1 F1 σ H1 A1 _ g1 x1.holds (WPE.bindS (p1 := p1) (w.later x1) fun kk s2 w2 F2 H2 B2 A2 ⟨rB, r2⟩ g2 x2 w => ?_)⟩
  subst rB
  have r2 : w2 = .int kk := r2
  subst r2
  obtain ⟨o, L', B, R2, q1'', q2', ⟨u, rfl, d', kvs', rfl, rfl, r'⟩, st⟩ := at_.at_ s2 F2 σ A2 g2
  rw [q1'] at q1''
  cases q1''
  subst q2'
  have hl : H2 d = some (.dK kvs') := (x2.holds.ow (d, .dK kvs') (by simp)).2
  dsimp only at w
  unfold mDPut at w
  by_cases hz : (get s2).length < sizeLine
  · rw [if_pos hz] at w
    have hw : Ext F2 H2 [(d, .dK kvs')] F2 (upd H2 d (.dK (putK kvs' (Sum.inl kk) v))) [(d, .dK (putK kvs' (Sum.inl kk) v))] := Ext.write (x2.holds.sub ((List.sublist_append_left _ _).trans (List.sublist_append_right _ _)))
    have gg := st F2 (some (.ref d)) (dPut (get s2) kk y) [(d, .dK (putK kvs' (Sum.inl kk) v))] (Same.refl _) ⟨.ref d, rfl, d, _, rfl, rfl, r'.put inl_inj (U.mono r1 x2.fz)⟩
    rw [set_same q1'] at gg
    exact ⟨d, _, rfl, DPut.k (k := Sum.inl kk) hl (by rw [r'.length]; exact hz), w F2 σ _ _ gg (x2.trans (Ext.frameMid (L := L') (A := [(d, .dK kvs')]) (R := R2) x2.holds hw))⟩
  · rw [if_neg hz] at w; exact w.elim
end
end
end TC
namespace TC
open PySem PySem.Spec PyProof.Rows L2
/-! ### the mirrors' words -/
section
variable {S S' S2 L L1 L' ρ α β γ ι P : Type}
def kV (get : S → α) : S → Res (α × S) := fun s => .ok (get s, s)
def kC (c : α) : S → Res (α × S) := fun s => .ok (c, s)
def kF (h : α → β) (f : S → Res (α × S)) : S → Res (β × S) := fun s => (f s).bind fun r => .ok (h r.1, r.2)
def kU (g : α → Res β) (f : S → Res (α × S)) : S → Res (β × S) := fun s => (f s).bind fun r1 => (g r1.1).bind fun z => .ok (z, r1.2)
def kB (g : α → β → Res γ) (f1 : S → Res (α × S)) (f2 : S → Res (β × S)) : S → Res (γ × S) := fun s => (f1 s).bind fun r1 => (f2 r1.2).bind fun r2 => (g r1.1 r2.1).bind fun z => .ok (z, r2.2)
def kCmp (g : α → β → Bool) (f1 : S → Res (α × S)) (f2 : S → Res (β × S)) : S → Res (Bool × S) := fun s => (f1 s).bind fun r1 => (f2 r1.2).bind fun r2 => .ok (g r1.1 r2.1, r2.2)
def kAnd (f g : S → Res (Bool × S)) : S → Res (Bool × S) := fun s => (f s).bind fun r => if r.1 then g r.2 else .ok (false, r.2)
def kOr (f g : S → Res (Bool × S)) : S → Res (Bool × S) := fun s => (f s).bind fun r => if r.1 then .ok (true, r.2) else g r.2
def kIte (c : S → Res (Bool × S)) (a b : S → Res (α × S)) : S → Res (α × S) := fun s => (c s).bind fun r => if r.1 then a r.2 else b r.2
def kChain (g : α → β → Bool) (g' : β → γ → Bool) (fa : S → Res (α × S)) (fb : S → Res (β × S)) (fc : S → Res (γ × S)) : S → Res (Bool × S) := fun s => (fa s).bind fun r1 => (fb r1.2).bind fun r2 => if g r1.1 r2.1 then (fc r2.2).bind fun r3 => .ok (g' r2.1 r3.1, r3.2) else .ok (false, r2.2)
def kIxO (get : S → List α) (fb : S → Res (Int × S)) : S → Res (α × S) := fun s => (fb s).bind fun r2 => (mIx (get r2.2) r2.1).bind fun z => .ok (z, r2.2)
def kLenO (get : S → List α) : S → Res (Int × S) := fun s => .ok (((get s).length : Int), s)
def kNil : S → Res (List α × S) := fun s => .ok ([], s)
def kCons (f : S → Res (α × S)) (g : S → Res (List α × S)) : S → Res (List α × S) := fun s => (f s).bind fun r1 => (g r1.2).bind fun r2 => .ok (r1.1 :: r2.1, r2.2)
def kU0 : S → Res (Unit × S) := fun s => .ok ((), s)
def kPair (f : S → Res (α × S)) (g : S → Res (β × S)) : S → Res ((α × β) × S) := fun s => (f s).bind fun r1 => (g r1.2).bind fun r2 => .ok ((r1.1, r2.1), r2.2)
def kCallL (m : List α × P → Res (ρ × List α)) (get : S → List α) (put : S → List α → S) (fa : S → Res (P × S)) : S → Res (ρ × S) := fun s => (fa s).bind fun r1 => (m (get r1.2, r1.1)).bind fun z => .ok (z.1, put r1.2 z.2)
def kMake (m : Unit × P → Res α) (fa : S → Res (P × S)) : S → Res (α × S) := fun s => (fa s).bind fun r1 => (m ((), r1.1)).bind fun z => .ok (z, r1.2)
def kLc (fi : S → Res (List ι × S)) (put : S → ι → S) (fe : S → Res (β × S)) : S → Res (List β × S) := fun s => (fi s).bind fun r => mComp (fun x s => (fe (put s x)).bind fun q => .ok (some q.1, q.2)) r.1 r.2
def kLcIf (fi : S → Res (List ι × S)) (put : S → ι → S) (ft : S → Res (Bool × S)) (fe : S → Res (β × S)) : S → Res (List β × S) := fun s => (fi s).bind fun r => mComp (fun x s => (ft (put s x)).bind fun b => if b.1 then (fe b.2).bind fun q => .ok (some q.1, q.2) else .ok (none, b.2)) r.1 r.2
def kPop (get : S → List α) (put : S → List α → S) : S → Res (α × S) := fun s => (mPop (get s)).bind fun r => .ok (r.1, put s r.2)
def kDGet (get : S → List (Int × β)) (f : S → Res (Int × S)) : S → Res (β × S) := fun s => (f s).bind fun r => (mDGet (get r.2) r.1).bind fun z => .ok (z, r.2)
def kDGetN (get : S → List (Int × β)) (f : S → Res (Int × S)) : S → Res (Option β × S) := fun s => (f s).bind fun r => .ok (dGet (get r.2) r.1, r.2)
def kDIn (get : S → List (Int × β)) (f : S → Res (Int × S)) : S → Res (Bool × S) := fun s => (f s).bind fun r => .ok ((dGet (get r.2) r.1).isSome, r.2)
def kDNin (get : S → List (Int × β)) (f : S → Res (Int × S)) : S → Res (Bool × S) := fun s => (f s).bind fun r => .ok (!(dGet (get r.2) r.1).isSome, r.2)
def kD1 (fk : S → Res (Int × S)) (fv : S → Res (β × S)) : S → Res (List (Int × β) × S) := fun s => (fk s).bind fun r => (fv r.2).bind fun q => .ok ([(r.1, q.1)], q.2)
def kRange1 (f : S → Res (Int × S)) : S → Res (List Int × S) := fun s => (f s).bind fun r => (mRange 0 r.1).bind fun xs => .ok (xs, r.2)
def kRange2 (f f' : S → Res (Int × S)) : S → Res (List Int × S) := fun s => (f s).bind fun r => (f' r.2).bind fun r' => (mRange r.1 r'.1).bind fun xs => .ok (xs, r'.2)
def kSet (f : S → Res (α × S)) (put : S → α → S') : S → Out S' L ρ := fun s => (f s).out fun r => .nx (put r.2 r.1)
def kExpr (f : S → Res (α × S)) : S → Out S L ρ := fun s => (f s).out fun r => .nx r.2
def kApp (get : S → List α) (put : S → List α → S) (f : S → Res (α × S)) : S → Out S L ρ := fun s => (f s).out fun r => (mApp (get r.2) r.1).out fun z => .nx (put r.2 z)
def kRev (get : S → List α) (put : S → List α → S) : S → Out S L ρ := fun s => .nx (put s (get s).reverse)
def kStore (get : S → List α) (put : S → List α → S) (f : S → Res (α × S)) (fi : S → Res (Int × S)) : S → Out S L ρ := fun s => (f s).out fun r => (fi r.2).out fun q => (mSet (get q.2) q.1 r.1).out fun z => .nx (put q.2 z)
def kAddI (get : S → Int) (put : S → Int → S) (f : S → Res (Int × S)) : S → Out S L ρ := fun s => (f s).out fun r => (mAdd (get s) r.1).out fun z => .nx (put r.2 z)
def kDPut (get : S → List (Int × β)) (put : S → List (Int × β) → S) (f : S → Res (Int × S)) (fv : S → Res (β × S)) : S → Out S L ρ := fun s => (fv s).out fun r => (f r.2).out fun q => (mDPut (get q.2) q.1 r.1).out fun z => .nx (put q.2 z)
def kIf (c : S → Res (Bool × S)) (a b : S → Out S' L ρ) : S → Out S' L ρ := fun s => (c s).out fun r => if r.1 then a r.2 else b r.2
def kFor (fi : S → Res (List ι × S)) (put : S → ι → L1) (fb : L1 → Out S S ρ) : S → Out S L' ρ := fun s => (fi s).out fun r => forM (fun x l => fb (put l x)) r.1 r.2
noncomputable def kWhile (fc : L → Res (Bool × L)) (fb : L → Out L L ρ) : L → Out L L' ρ := fun s => whileM fc fb s
def kNx : S → Out S L ρ := fun s => .nx s
def kSeq (f : S → Out S' L ρ) (g : S' → Out S2 L ρ) : S → Out S2 L ρ := fun s => (f s).seq g
def kRet (f : S → Res (α × S)) : S → Out S' L α := fun s => (f s).out fun r => .rt r.1
def kRetL (get : S → β) (f : S → Res (α × S)) : S → Out S' L (α × β) := fun s => (f s).out fun r => .rt (r.1, get r.2)
def kFldNew (get : S → α) (put : S → α × β → S') (f : S → Res (β × S)) : S → Out S' L ρ := fun s => (f s).out fun r => .nx (put r.2 (get r.2, r.1))
def kBk : L → Out S' L ρ := fun s => .bk s
def kCt : L → Out S' L ρ := fun s => .ct s
def kRun (fb : S → Out S' L ρ) (init : P → S) (fall : S' → Res ρ) : P → Res ρ := fun y => (fb (init y)).res fall
end
theorem SMv.hide {α : Type} {sl : Sl α} : SMv sl (sAny : Sl α) (fun x => x) := SMv.any
section
variable {XR : XRel} {W : WX} {X : Cx} {S S' S2 L ρ α : Type} {G G' : Ctx S} {G2 : Ctx S2} {G3 : Ctx S'} {Gb : Ctx L} {Rr : Rl ρ} {st : Stmt} {sts es : List Expr} {p : Bool} {pos : Pos}
theorem ss_nilI (mv : MvI G G') : SS XR W X Rr Gb G [] G' (kNx : S → Out S L ρ) := ss_nil mv
theorem sm_forI {ι L1 L' S : Type} {G Gl : Ctx S} {Gb : Ctx L'} {G1 : Ctx L1} {T : Ty ι} {fi : S → Res (List ι × S)} {tgt iter : Expr} {body : List Stmt} {put : S → ι → L1} {vs : List Nat} {fb : L1 → Out S S ρ} (hp : PassesOwn (model X.prog X.w) X.A X.env X.xe) (hc : X.calm = true) (hi : IM XR W X G tgt iter T fi) (mv : MvI G Gl)
    (tg : Tgt X tgt T Gl G1 put vs) (hb : SS XR W X Rr Gl G1 body Gl fb) (hs : ∀ x, foldedSetIterable iter X.env x = pure x := by intro _; rfl) :
    SM XR W X Rr Gb G (.For tgt iter body [] pos) Gl (kFor fi put fb) := sm_for hp hc hi mv tg hb hs
theorem sm_whileI {L' S : Type} {G Gl : Ctx S} {Gb : Ctx L'} {c : Expr} {body : List Stmt} {fc : S → Res (Bool × S)} {fb : S → Out S S ρ} (hp : PassesOwn (model X.prog X.w) X.A X.env X.xe) (mv : MvI G Gl) (hc : TM XR W X p Gl c fc) (hb : SS XR W X Rr Gl Gl body Gl fb) :
    SM XR W X Rr Gb G (.While c body [] pos) Gl (kWhile fc fb) := sm_while hp mv hc hb
theorem sm_breakI (mv : MvI G G') : SM XR W X Rr G' G (.Break pos) G2 (kBk : S → Out S2 S ρ) := sm_break mv
theorem sm_continueI (mv : MvI G G') : SM XR W X Rr G' G (.Continue pos) G2 (kCt : S → Out S2 S ρ) := sm_continue mv
theorem sm_retP {R : Rl ρ} {e : Expr} {f : S → Res (ρ × S)} (h : EM XR W X p G e R f) : SM XR W X R Gb G (.Return (some e) pos) G2 (kRet f) := sm_ret pk_plain h
theorem sm_retL {R : Rl ρ} {T : Ty α} {i : Nat} {ad : Addr} {get : S → List α} {put : S → List α → S} {e : Expr} {f : S → Res (ρ × S)} (at_ : At G i (sR (oLa ad T)) get (sR (oLa ad T)) G put) (h : EM XR W X p G e R f) : SM XR W X (rLent R ad T) Gb G (.Return (some e) pos) G2 (kRetL get f) := sm_ret (pk_lent at_) h
theorem ss_mvI {sts : List Stmt} {f : S → Out S2 L ρ} (mv : Mv G G' (fun s => s)) (h : SS XR W X Rr Gb G' sts G2 f) : SS XR W X Rr Gb G sts G2 f := ss_mv mv h
theorem ss_one {f : S → Out S2 L ρ} (h : SM XR W X Rr Gb G st G2 f) : SS XR W X Rr Gb G [st] G2 f := by
  obtain ⟨t, ht, h⟩ := h
  exact ⟨_, pss_one ht, h⟩
structure LenLe (f : S → Res (List α × S)) (n : Nat) : Prop where
  l : ∀ s xs s', f s = .ok (xs, s') → xs.length ≤ n
theorem ln_nil : LenLe (kNil : S → Res (List α × S)) 0 := ⟨fun s xs s' h => by cases h; exact Nat.le_refl _⟩
theorem ln_cons {f : S → Res (α × S)} {g : S → Res (List α × S)} {n : Nat} (h : LenLe g n) : LenLe (kCons f g) (n + 1) := ⟨fun s xs s' e => by
  unfold kCons at e
  cases q : f s with
  | bad => rw [q] at e; cases e
  | er _ => rw [q] at e; cases e
  | ok r =>
    obtain ⟨y, s1⟩ := r
    rw [q] at e
    simp only [Res.bind_ok] at e
    cases q2 : g s1 with
    | bad => rw [q2] at e; cases e
    | er _ => rw [q2] at e; cases e
    | ok r2 =>
      obtain ⟨ys, s2⟩ := r2
      rw [q2] at e
      cases e
      exact Nat.succ_le_succ (h.l _ _ _ q2)⟩
theorem em_lstN {T : Ty α} {f : S → Res (List α × S)} {n : Nat} (h : AM XR W X p G es (aall T) f) (hl : LenLe f n) (hn : n ≤ 1000) : EM XR W X p G (.List es pos) (oL T) f := em_lst h fun s xs s' e => Nat.le_trans (hl.l s xs s' e) (Nat.le_trans hn (by show 1000 ≤ 2 ^ 24; decide))
theorem em_tupN {T : Ty α} {f : S → Res (List α × S)} {n : Nat} {k' : Nat} (h : AM XR W X p G es (aall T) f) (hl : LenLe f n) (hn : n ≤ 1000) : EM XR W X p G (.Tuple es k' pos) (fz (tTup T)) f := em_tupA h fun s xs s' e => Nat.le_trans (hl.l s xs s' e) (Nat.le_trans hn (by show 1000 ≤ 2 ^ 24; decide))
theorem em_globI {x : Str} {c : Int} (hg : L2.Gl X x) (hm : ∃ t, X.mg x = some (.int c t)) (hd : (x == ("__debug__" : Str)) = false := by decide) : EM XR W X true G (.Name x pos) (fz tInt) (kC c) := by
  obtain ⟨t, hm⟩ := hm
  exact em_glob (v := .int c) hg hm ⟨t, rfl⟩ (fun _ => rfl) hd
theorem sm_retO {T : Ty α} {i : Nat} {x : Str} {pp : Pos} {get : S → List α} {put : S → List α → S} {sl : Sl (List α)} [os : OL T sl] {Gb : Ctx L} (hN : X.N[i]? = some x) (hv : Vis X.env.scope x) (at_ : At G i sl get sl G put)
    (hd : (x == ("__debug__" : Str)) = false := by decide) (hcd : (x == ("__classdict__" : Str)) = false := by decide) : SM XR W X (oL T) Gb G (.Return (some (.Name x pp)) pos) G2 (kRet (kV get)) := by
  refine ⟨_, ps_ret (pe_var hN hv hd hcd), fun s F σ H A D g k w => ?_⟩
  obtain ⟨o, L, B, R', e1, e2, hsl, _⟩ := at_.at_ s F σ A g
  obtain ⟨a, vs, rfl, e4, r, _⟩ := os.opn hsl
  subst e4 e2
  exact ⟨.ref a, e1, w (.ref a) F H [(a, .lst vs)] ⟨a, vs, rfl, rfl, r⟩ ((Ext.refl k).sub ((List.sublist_append_left _ _).trans (List.sublist_append_right _ _)))⟩
/-- e in xs, xs a list that stands in a slot -/
theorem inO {β γ : Type} [DecidableEq α] {T : Ty α} (c : Scal T) {neg : Bool} {op : CmpOp} {a : Expr} {i : Nat} {x : Str} {pp : Pos} {get : S → List α} {put : S → List α → S} {sl : Sl (List α)} [os : OL T sl] {f : S → Res (α × S)} (hop : OpR X (compareOp op) (rIn X.K neg)) (hN : X.N[i]? = some x) (hv : Vis X.env.scope x) (at_ : At G i sl get sl G put) (h : EM XR W X p G a (fz T) f)
    (hd : (x == ("__debug__" : Str)) = false := by decide) (hcd : (x == ("__classdict__" : Str)) = false := by decide) :
    ∃ ta, PE X a ta ∧ PE X (.Name x pp) (tVar i) ∧ ∀ s F σ H A (Q : VK), G.P s F σ A → Holds F H A → WPE XR W p σ (fz tBool) G F H A s Q ((f s).bind fun r => .ok (if neg then !decide (r.1 ∈ get r.2) else decide (r.1 ∈ get r.2), r.2)) → tOp (rIn X.K neg) ta (tVar i) σ H Q := by
  obtain ⟨t, ht, h⟩ := h
  refine ⟨t, ht, pe_var hN hv hd hcd, fun s F σ H A Q g k w => h s F σ H A _ g k (WPE.bind w fun y s1 v F1 H1 B A1 ⟨rB, r1⟩ g1 e1 q1 w => ?_)⟩
  subst rB
  obtain ⟨o, L, B, R', q1', q2, hsl, _⟩ := at_.at_ s1 F1 σ A1 g1
  obtain ⟨d, vs, rfl, e4, r, _⟩ := os.opn hsl
  subst e4
  have hl : H1 d = some (.lst vs) := (e1.holds.ow (d, .lst vs) (by rw [q2]; simp)).2
  obtain ⟨z1, z2⟩ := inV_of c (x := y) r
  rw [c.is F1 v y r1]
  refine ⟨.ref d, q1', d, vs, rfl, .inl (SqL.of hl), c.flat y, z2, ?_⟩
  rw [z1]
  exact w _ F1 H1 [] A1 ⟨rfl, rfl⟩ g1 e1 q1
def kInO [DecidableEq α] (get : S → List α) (f : S → Res (α × S)) : S → Res (Bool × S) := fun s => (f s).bind fun r => .ok (decide (r.1 ∈ get r.2), r.2)
def kNinO [DecidableEq α] (get : S → List α) (f : S → Res (α × S)) : S → Res (Bool × S) := fun s => (f s).bind fun r => .ok (!decide (r.1 ∈ get r.2), r.2)
section
variable [DecidableEq α] {T : Ty α} {a : Expr} {i : Nat} {x : Str} {pp : Pos} {get : S → List α} {put : S → List α → S} {sl : Sl (List α)} [os : OL T sl] {f : S → Res (α × S)}
theorem tm_inO (c : Scal T) (hN : X.N[i]? = some x) (hv : Vis X.env.scope x) (at_ : At G i sl get sl G put) (h : EM XR W X p G a (fz T) f) (hm : behindInMarks .In (.Name x pp) = false := by rfl)
    (hd : (x == ("__debug__" : Str)) = false := by decide) (hcd : (x == ("__classdict__" : Str)) = false := by decide) : TM XR W X p G (.Compare a [.In] [.Name x pp] pos) (kInO get f) := by
  obtain ⟨ta, h1, h2, h3⟩ := inO (β := Unit) (γ := Unit) c op_in_seq hN hv at_ h hd hcd
  refine ⟨_, pt_cmpR op_in_seq h1 h2 hm, fun s F σ H A Q g k w => h3 s F σ H A _ g k (WPE.bindT (k := fun r => .ok r) (by rw [show (((f s).bind fun r => Res.ok (if false = true then !decide (r.1 ∈ get r.2) else decide (r.1 ∈ get r.2), r.2)).bind fun r => .ok r) = kInO get f s by unfold kInO; cases f s <;> rfl]; exact w) fun x s1 v F1 H1 B A1 ⟨rB, r1⟩ g1 e1 q1 w => ?_)⟩
  subst rB
  exact ⟨x, r1, w F1 H1 A1 g1 e1 q1⟩
theorem tm_ninO (c : Scal T) (hN : X.N[i]? = some x) (hv : Vis X.env.scope x) (at_ : At G i sl get sl G put) (h : EM XR W X p G a (fz T) f) (hm : behindInMarks .NotIn (.Name x pp) = false := by rfl)
    (hd : (x == ("__debug__" : Str)) = false := by decide) (hcd : (x == ("__classdict__" : Str)) = false := by decide) : TM XR W X p G (.Compare a [.NotIn] [.Name x pp] pos) (kNinO get f) := by
  obtain ⟨ta, h1, h2, h3⟩ := inO (β := Unit) (γ := Unit) c op_notIn_seq hN hv at_ h hd hcd
  refine ⟨_, pt_cmpR op_notIn_seq h1 h2 hm, fun s F σ H A Q g k w => h3 s F σ H A _ g k (WPE.bindT (k := fun r => .ok r) (by rw [show (((f s).bind fun r => Res.ok (if true = true then !decide (r.1 ∈ get r.2) else decide (r.1 ∈ get r.2), r.2)).bind fun r => .ok r) = kNinO get f s by unfold kNinO; cases f s <;> rfl]; exact w) fun x s1 v F1 H1 B A1 ⟨rB, r1⟩ g1 e1 q1 w => ?_)⟩
  subst rB
  exact ⟨x, r1, w F1 H1 A1 g1 e1 q1⟩
end
theorem nnLst {T : Ty α} : ∀ F v x, (tLst T).R F v x → v ≠ .non := fun F v x ⟨a, vs, e, _⟩ z => by rw [e] at z; cases z
theorem nnTup {T : Ty α} : ∀ F v x, (tTup T).R F v x → v ≠ .non := fun F v x ⟨a, vs, e, _⟩ z => by rw [e] at z; cases z
theorem nnInt : ∀ F v x, tInt.R F v x → v ≠ .non := fun F v x e z => by rw [show v = .int x from e] at z; cases z
theorem nnStr : ∀ F v x, tStr.R F v x → v ≠ .non := fun F v x e z => by rw [show v = .str x from e] at z; cases z
theorem nnP2 {β : Type} {T : Ty α} {U : Ty β} : ∀ F v x, (tP2 T U).R F v x → v ≠ .non := fun F v x ⟨a, v1, v2, e, _⟩ z => by rw [e] at z; cases z
theorem nnP3 {β γ : Type} {T : Ty α} {U : Ty β} {V' : Ty γ} : ∀ F v x, (tP3 T U V').R F v x → v ≠ .non := fun F v x ⟨a, v1, v2, v3, e, _⟩ z => by rw [e] at z; cases z
theorem nnObj {fr : FR α} {C : Addr} : ∀ F v x, (tIns C fr).R F v x → v ≠ .non := fun F v x ⟨a, dx, fs, e, _⟩ z => by rw [e] at z; cases z
end
/-- a def as it stands behind the top -/
structure DefAt (K : PySem.W.Frag) (mg : Str → Option Value) (x : Str) (st : Stmt) (ps : List Str) (f : Addr) (fd : FuncData) : Prop where
  F : Fun K x x st f fd
  b : Binds K fd ps []
  g : mg x = some (.ref f)
structure IniAt (K : PySem.W.Frag) (mg : Str → Option Value) (c q : Str) (st : Stmt) (ps : List Str) (C f : Addr) (fd : FuncData) : Prop where
  F : Fun K "__init__" q st f fd
  b : Binds K fd ps []
  cl : Cls K C
  mkr : Mk K C f
  g : mg c = some (.ref C)
end TC
namespace TC
open PySem PySem.Spec PyProof.Rows L2
/-! ### what a mirror's answer satisfies -/
section
variable {S S' S2 L L1 L' ρ α β γ ι P : Type}
def Res.Is0 (E : Ex → Prop) (Q : α → Prop) : Res α → Prop
  | .ok a => Q a
  | .er e => E e
  | .bad => False
def Out.Is0 (E : Ex → Prop) (R : ρ → Prop) (B C : L → Prop) (Q : S → Prop) : Out S L ρ → Prop
  | .nx s => Q s
  | .rt r => R r
  | .bk l => B l
  | .ct l => C l
  | .er e => E e
  | .bad => False
variable {E : Ex → Prop} {R : ρ → Prop} {B C : L → Prop} {Q : S' → Prop} {s : S}
theorem Res_Is_mono_0 {Q Q' : α → Prop} {r : Res α} (h : r.Is0 E Q) (k : ∀ a, Q a → Q' a) : r.Is0 E Q' := by
  cases r with
  | ok a => exact k a h
  | er e => exact h
  | bad => exact h
theorem Out_Is_mono_0 {Q Q' : S → Prop} {R R' : ρ → Prop} {B B' C C' : L → Prop} {r : Out S L ρ} (h : r.Is0 E R B C Q) (hR : ∀ a, R a → R' a) (hB : ∀ a, B a → B' a) (hC : ∀ a, C a → C' a) (k : ∀ a, Q a → Q' a) : r.Is0 E R' B' C' Q' := by
  cases r with
  | nx a => exact k a h
  | rt a => exact hR a h
  | bk a => exact hB a h
  | ct a => exact hC a h
  | er e => exact h
  | bad => exact h
theorem Res_is_ok_0 {Q : α → Prop} {a : α} : (Res.ok a).Is0 E Q = Q a := propext Iff.rfl
theorem Res_is_er_0 {Q : α → Prop} {e : Ex} : (Res.er e : Res α).Is0 E Q = E e := propext Iff.rfl
theorem Res_is_bad_0 {Q : α → Prop} : (Res.bad : Res α).Is0 E Q = False := propext Iff.rfl
theorem Res_is_bind_0 {Q : β → Prop} {r : Res α} {k : α → Res β} : (r.bind k).Is0 E Q = r.Is0 E fun a => (k a).Is0 E Q := by cases r <;> rfl
theorem Res_is_out_0 {r : Res α} {k : α → Out S' L ρ} : (r.out k).Is0 E R B C Q = r.Is0 E fun a => (k a).Is0 E R B C Q := by cases r <;> rfl
theorem Out_is_seq_0 {o : Out S L ρ} {k : S → Out S' L ρ} : (o.seq k).Is0 E R B C Q = o.Is0 E R B C fun s => (k s).Is0 E R B C Q := by cases o <;> rfl
theorem Out_is_nx_0 {a : S'} : (Out.nx a : Out S' L ρ).Is0 E R B C Q = Q a := propext Iff.rfl
theorem Out_is_rt_0 {a : ρ} : (Out.rt a : Out S' L ρ).Is0 E R B C Q = R a := propext Iff.rfl
theorem Out_is_bk_0 {a : L} : (Out.bk a : Out S' L ρ).Is0 E R B C Q = B a := propext Iff.rfl
theorem Out_is_ct_0 {a : L} : (Out.ct a : Out S' L ρ).Is0 E R B C Q = C a := propext Iff.rfl
theorem Out_is_ite_0 {c : Prop} [Decidable c] {a b : Out S' L ρ} : (if c then a else b).Is0 E R B C Q = if c then a.Is0 E R B C Q else b.Is0 E R B C Q := by split <;> rfl
theorem Res_is_ite_0 {c : Prop} [Decidable c] {Q : α → Prop} {a b : Res α} : (if c then a else b).Is0 E Q = if c then a.Is0 E Q else b.Is0 E Q := by split <;> rfl
theorem Out_is_res_0 {fall : S → Res ρ} {Q : ρ → Prop} {o : Out S L ρ} : (o.res fall).Is0 E Q = o.Is0 E Q (fun _ => False) (fun _ => False) (fun s => (fall s).Is0 E Q) := by cases o <;> rfl
theorem is_ok_iff_0 {Q : α → Prop} {r : Res α} : r.Is0 (fun _ => False) Q ↔ ∃ a, r = .ok a ∧ Q a := by
  cases r with
  | ok a => exact ⟨fun h => ⟨a, rfl, h⟩, fun ⟨b, e, h⟩ => by cases e; exact h⟩
  | er e => exact ⟨fun h => h.elim, fun ⟨b, e, h⟩ => by cases e⟩
  | bad => exact ⟨fun h => h.elim, fun ⟨b, e, h⟩ => by cases e⟩
theorem of_is_0 {r : Res α} {a : α} (h : r.Is0 (fun _ => False) (· = a)) : r = .ok a := by
  obtain ⟨b, e, rfl⟩ := is_ok_iff_0.mp h
  exact e

/-! ### loops -/
theorem forM_is_0 {body : ι → L → Out L L ρ} {B' C' : L' → Prop} {Q : L → Prop} {xs : List ι} {l : L} (I : Nat → L → Prop) (h0 : I 0 l)
    (hs : ∀ i x l, xs[i]? = some x → I i l → (body x l).Is0 E R Q (I (i + 1)) (I (i + 1))) (hd : ∀ l, I xs.length l → Q l) : (forM body xs l : Out L L' ρ).Is0 E R B' C' Q := by
  have go : ∀ (ys : List ι) (k : Nat) (l : L), (∀ j, ys[j]? = xs[k + j]?) → k + ys.length = xs.length → I k l → (forM body ys l : Out L L' ρ).Is0 E R B' C' Q := by
    intro ys
    induction ys with
    | nil =>
      intro k l _ hk hI
      simp only [List.length_nil, Nat.add_zero] at hk
      exact hd l (hk ▸ hI)
    | cons y ys ih =>
      intro k l he hk hI
      have hx : xs[k]? = some y := by rw [← Nat.add_zero k, ← he 0]; rfl
      have hb := hs k y l hx hI
      rw [forM_cons]
      have nxt : ∀ j, ys[j]? = xs[(k + 1) + j]? := fun j => by rw [show k + 1 + j = k + (j + 1) by omega, ← he (j + 1)]; rfl
      have len : k + 1 + ys.length = xs.length := by rw [List.length_cons] at hk; omega
      cases q : body y l with
      | nx l' => rw [q] at hb; exact ih (k + 1) l' nxt len hb
      | ct l' => rw [q] at hb; exact ih (k + 1) l' nxt len hb
      | bk l' => rw [q] at hb; exact hb
      | rt r => rw [q] at hb; exact hb
      | er e => rw [q] at hb; exact hb
      | bad => rw [q] at hb; exact hb
  exact go xs 0 l (fun j => by rw [Nat.zero_add]) (Nat.zero_add _) h0
theorem whileM_is_0 {c : L → Res (Bool × L)} {body : L → Out L L ρ} {B' C' : L' → Prop} {Q : L → Prop} (I : L → Prop) (μ : L → Nat)
    (hs : ∀ l, I l → (c l).Is0 E fun r => if r.1 = true then (body r.2).Is0 E R Q (fun l' => I l' ∧ μ l' < μ l) (fun l' => I l' ∧ μ l' < μ l) else Q r.2) {l : L} (h0 : I l) : (whileM c body l : Out L L' ρ).Is0 E R B' C' Q := by
  have go : ∀ (n : Nat) (l : L), μ l < n → I l → (whileM c body l : Out L L' ρ).Is0 E R B' C' Q := by
    intro n
    induction n with
    | zero => intro l h _; exact absurd h (Nat.not_lt_zero _)
    | succ n ih =>
      intro l hn hI
      have h := hs l hI
      rw [whileM_step]
      cases q : c l with
      | bad => rw [q] at h; exact h
      | er e => rw [q] at h; exact h
      | ok r =>
        obtain ⟨b, l'⟩ := r
        rw [q] at h
        cases b with
        | false => exact h
        | true =>
          have h : (body l').Is0 E R Q (fun l' => I l' ∧ μ l' < μ l) (fun l' => I l' ∧ μ l' < μ l) := h
          dsimp only
          cases q2 : body l' with
          | nx l2 => rw [q2] at h; simp only [q2]; exact ih l2 (Nat.lt_of_lt_of_le h.2 (Nat.lt_succ_iff.mp hn)) h.1
          | ct l2 => rw [q2] at h; simp only [q2]; exact ih l2 (Nat.lt_of_lt_of_le h.2 (Nat.lt_succ_iff.mp hn)) h.1
          | bk l2 => rw [q2] at h; simp only [q2]; exact h
          | rt r => rw [q2] at h; simp only [q2]; exact h
          | er e => rw [q2] at h; simp only [q2]; exact h
          | bad => rw [q2] at h; exact h.elim
  exact go (μ l + 1) l (Nat.lt_succ_self _) h0
theorem mComp_is_0 {body : ι → S → Res (Option β × S)} {E' : Ex → Prop} {Q : List β × S → Prop} {xs : List ι} (hl : xs.length ≤ sizeLine) (J : Nat → S → List β → Prop) (h0 : J 0 s [])
    (hs : ∀ i x s acc, xs[i]? = some x → J i s acc → (body x s).Is0 (fun _ => False) fun r => J (i + 1) r.2 (acc ++ r.1.toList)) (hd : ∀ s acc, J xs.length s acc → Q (acc, s)) : (mComp body xs s).Is0 E' Q := by
  unfold mComp
  rw [if_pos hl]
  have go : ∀ (ys : List ι) (k : Nat) (s : S) (acc : List β) , (∀ j, ys[j]? = xs[k + j]?) → k + ys.length = xs.length → J k s acc → (compL body ys s).Is0 E' fun r => Q (acc ++ r.1, r.2) := by
    intro ys
    induction ys with
    | nil =>
      intro k s acc _ hk hJ
      simp only [List.length_nil, Nat.add_zero] at hk
      show Q (acc ++ [], s)
      rw [List.append_nil]
      exact hd s acc (hk ▸ hJ)
    | cons y ys ih =>
      intro k s acc he hk hJ
      have hx : xs[k]? = some y := by rw [← Nat.add_zero k, ← he 0]; rfl
      have hb := hs k y s acc hx hJ
      have nxt : ∀ j, ys[j]? = xs[(k + 1) + j]? := fun j => by rw [show k + 1 + j = k + (j + 1) by omega, ← he (j + 1)]; rfl
      have len : k + 1 + ys.length = xs.length := by rw [List.length_cons] at hk; omega
      unfold compL
      cases q : body y s with
      | er e => rw [q] at hb; exact hb.elim
      | bad => rw [q] at hb; exact hb
      | ok r =>
        obtain ⟨o, s1⟩ := r
        rw [q] at hb
        have h2 := ih (k + 1) s1 (acc ++ o.toList) nxt len hb
        dsimp only
        cases q2 : compL body ys s1 with
        | er e =>
          exfalso
          have : ∀ (ys : List ι) (s : S) (e : Ex), compL body ys s ≠ .er e := by
            intro ys s e h
            have := mComp_ne (body := body) (xs := ys) (s := s) (ex := e)
            cases ys with
            | nil => cases h
            | cons y ys =>
              unfold compL at h
              split at h
              · split at h <;> cases h
              · cases h
          exact this _ _ _ q2
        | bad => rw [q2] at h2; exact h2
        | ok r2 =>
          obtain ⟨ys', s2⟩ := r2
          rw [q2] at h2
          have h2 : Q (acc ++ o.toList ++ ys', s2) := h2
          clear hb q
          cases o with
          | none => show Q (acc ++ ys', s2); simpa using h2
          | some y => show Q (acc ++ (y :: ys'), s2); simpa using h2
  have := go xs 0 s [] (fun j => by rw [Nat.zero_add]) (Nat.zero_add _) h0
  simpa using this

/-! ### the words, by what they ask -/
variable {Qr : ρ → Prop} {Qa : α × S → Prop} {Qb : β × S → Prop} {Qg : γ × S → Prop} {QB : Bool × S → Prop} {Ql : List α × S → Prop}
structure Res.Is (E : Ex → Prop) (Q : α → Prop) (r : Res α) : Prop where
  h : Res.Is0 E Q r
structure Out.Is (E : Ex → Prop) (R : ρ → Prop) (B C : L → Prop) (Q : S → Prop) (o : Out S L ρ) : Prop where
  h : Out.Is0 E R B C Q o
theorem Res.is_z : (@Res.Is : {α : Type} → (Ex → Prop) → (α → Prop) → Res α → Prop) = @Res.Is0 := by funext α E Q r; exact propext ⟨fun h => h.h, fun h => ⟨h⟩⟩
theorem Out.is_z : (@Out.Is : {S L ρ : Type} → (Ex → Prop) → (ρ → Prop) → (L → Prop) → (L → Prop) → (S → Prop) → Out S L ρ → Prop) = @Out.Is0 := by funext S L ρ E R B C Q r; exact propext ⟨fun h => h.h, fun h => ⟨h⟩⟩
theorem Res.Is.mono {Q Q' : α → Prop} {r : Res α} (h : r.Is E Q) (k : ∀ a, Q a → Q' a) : r.Is E Q' := by
  have z := @Res_Is_mono_0
  simp only [← Res.is_z, ← Out.is_z] at z
  first | exact z | (apply z <;> assumption)
theorem Out.Is.mono {Q Q' : S → Prop} {R R' : ρ → Prop} {B B' C C' : L → Prop} {r : Out S L ρ} (h : r.Is E R B C Q) (hR : ∀ a, R a → R' a) (hB : ∀ a, B a → B' a) (hC : ∀ a, C a → C' a) (k : ∀ a, Q a → Q' a) : r.Is E R' B' C' Q' := by
  have z := @Out_Is_mono_0
  simp only [← Res.is_z, ← Out.is_z] at z
  first | exact z | (apply z <;> assumption)
theorem Res.is_ok {Q : α → Prop} {a : α} : (Res.ok a).Is E Q = Q a := by
  have z := @Res_is_ok_0
  simp only [← Res.is_z, ← Out.is_z] at z
  first | exact z | (apply z <;> assumption)
theorem Res.is_er {Q : α → Prop} {e : Ex} : (Res.er e : Res α).Is E Q = E e := by
  have z := @Res_is_er_0
  simp only [← Res.is_z, ← Out.is_z] at z
  first | exact z | (apply z <;> assumption)
theorem Res.is_bad {Q : α → Prop} : (Res.bad : Res α).Is E Q = False := by
  have z := @Res_is_bad_0
  simp only [← Res.is_z, ← Out.is_z] at z
  first | exact z | (apply z <;> assumption)
theorem Res.is_bind {Q : β → Prop} {r : Res α} {k : α → Res β} : (r.bind k).Is E Q = r.Is E fun a => (k a).Is E Q := by
  have z := @Res_is_bind_0
  simp only [← Res.is_z, ← Out.is_z] at z
  first | exact z | (apply z <;> assumption)
theorem Res.is_out {r : Res α} {k : α → Out S' L ρ} : (r.out k).Is E R B C Q = r.Is E fun a => (k a).Is E R B C Q := by
  have z := @Res_is_out_0
  simp only [← Res.is_z, ← Out.is_z] at z
  first | exact z | (apply z <;> assumption)
theorem Out.is_seq {o : Out S L ρ} {k : S → Out S' L ρ} : (o.seq k).Is E R B C Q = o.Is E R B C fun s => (k s).Is E R B C Q := by
  have z := @Out_is_seq_0
  simp only [← Res.is_z, ← Out.is_z] at z
  first | exact z | (apply z <;> assumption)
theorem Out.is_nx {a : S'} : (Out.nx a : Out S' L ρ).Is E R B C Q = Q a := by
  have z := @Out_is_nx_0
  simp only [← Res.is_z, ← Out.is_z] at z
  first | exact z | (apply z <;> assumption)
theorem Out.is_rt {a : ρ} : (Out.rt a : Out S' L ρ).Is E R B C Q = R a := by
  have z := @Out_is_rt_0
  simp only [← Res.is_z, ← Out.is_z] at z
  first | exact z | (apply z <;> assumption)
theorem Out.is_bk {a : L} : (Out.bk a : Out S' L ρ).Is E R B C Q = B a := by
  have z := @Out_is_bk_0
  simp only [← Res.is_z, ← Out.is_z] at z
  first | exact z | (apply z <;> assumption)
theorem Out.is_ct {a : L} : (Out.ct a : Out S' L ρ).Is E R B C Q = C a := by
  have z := @Out_is_ct_0
  simp only [← Res.is_z, ← Out.is_z] at z
  first | exact z | (apply z <;> assumption)
theorem Out.is_ite {c : Prop} [Decidable c] {a b : Out S' L ρ} : (if c then a else b).Is E R B C Q = if c then a.Is E R B C Q else b.Is E R B C Q := by
  have z := @Out_is_ite_0
  simp only [← Res.is_z, ← Out.is_z] at z
  first | exact z | (apply z <;> assumption)
theorem Res.is_ite {c : Prop} [Decidable c] {Q : α → Prop} {a b : Res α} : (if c then a else b).Is E Q = if c then a.Is E Q else b.Is E Q := by
  have z := @Res_is_ite_0
  simp only [← Res.is_z, ← Out.is_z] at z
  first | exact z | (apply z <;> assumption)
theorem Out.is_res {fall : S → Res ρ} {Q : ρ → Prop} {o : Out S L ρ} : (o.res fall).Is E Q = o.Is E Q (fun _ => False) (fun _ => False) (fun s => (fall s).Is E Q) := by
  have z := @Out_is_res_0
  simp only [← Res.is_z, ← Out.is_z] at z
  first | exact z | (apply z <;> assumption)
theorem is_ok_iff {Q : α → Prop} {r : Res α} : r.Is (fun _ => False) Q ↔ ∃ a, r = .ok a ∧ Q a := by
  have z := @is_ok_iff_0
  simp only [← Res.is_z, ← Out.is_z] at z
  first | exact z | (apply z <;> assumption)
theorem of_is {r : Res α} {a : α} (h : r.Is (fun _ => False) (· = a)) : r = .ok a := by
  have z := @of_is_0
  simp only [← Res.is_z, ← Out.is_z] at z
  first | exact z | (apply z <;> assumption)
theorem forM_is {body : ι → L → Out L L ρ} {B' C' : L' → Prop} {Q : L → Prop} {xs : List ι} {l : L} (I : Nat → L → Prop) (h0 : I 0 l)
    (hs : ∀ i x l, xs[i]? = some x → I i l → (body x l).Is E R Q (I (i + 1)) (I (i + 1))) (hd : ∀ l, I xs.length l → Q l) : (forM body xs l : Out L L' ρ).Is E R B' C' Q := by
  have z := @forM_is_0
  simp only [← Res.is_z, ← Out.is_z] at z
  first | exact z | (apply z <;> assumption)
theorem whileM_is {c : L → Res (Bool × L)} {body : L → Out L L ρ} {B' C' : L' → Prop} {Q : L → Prop} (I : L → Prop) (μ : L → Nat)
    (hs : ∀ l, I l → (c l).Is E fun r => if r.1 = true then (body r.2).Is E R Q (fun l' => I l' ∧ μ l' < μ l) (fun l' => I l' ∧ μ l' < μ l) else Q r.2) {l : L} (h0 : I l) : (whileM c body l : Out L L' ρ).Is E R B' C' Q := by
  have z := @whileM_is_0
  simp only [← Res.is_z, ← Out.is_z] at z
  first | exact z | (apply z <;> assumption)
theorem mComp_is {body : ι → S → Res (Option β × S)} {E' : Ex → Prop} {Q : List β × S → Prop} {xs : List ι} (hl : xs.length ≤ sizeLine) (J : Nat → S → List β → Prop) (h0 : J 0 s [])
    (hs : ∀ i x s acc, xs[i]? = some x → J i s acc → (body x s).Is (fun _ => False) fun r => J (i + 1) r.2 (acc ++ r.1.toList)) (hd : ∀ s acc, J xs.length s acc → Q (acc, s)) : (mComp body xs s).Is E' Q := by
  have z := @mComp_is_0
  simp only [← Res.is_z, ← Out.is_z] at z
  first | exact z | (apply z <;> assumption)
theorem w_V {get : S → α} : (kV get s).Is E Qa = Qa (get s, s) := by
  first
  | (unfold kV; simp only [Res.is_ok, Res.is_bind, Res.is_out, Out.is_nx, Out.is_rt, Out.is_bk, Out.is_ct, Out.is_seq, Out.is_res, Out.is_ite, Res.is_ite]; done)
  | (unfold kV; simp only [Res.is_ok, Res.is_bind, Res.is_out, Out.is_nx, Out.is_rt, Out.is_seq, Out.is_res, Out.is_ite, Res.is_ite, mAdd])
  | rfl
theorem w_C {c : α} : (kC c s).Is E Qa = Qa (c, s) := by
  first
  | (unfold kC; simp only [Res.is_ok, Res.is_bind, Res.is_out, Out.is_nx, Out.is_rt, Out.is_bk, Out.is_ct, Out.is_seq, Out.is_res, Out.is_ite, Res.is_ite]; done)
  | (unfold kC; simp only [Res.is_ok, Res.is_bind, Res.is_out, Out.is_nx, Out.is_rt, Out.is_seq, Out.is_res, Out.is_ite, Res.is_ite, mAdd])
  | rfl
theorem w_F {h : α → β} {f : S → Res (α × S)} : (kF h f s).Is E Qb = (f s).Is E fun r => Qb (h r.1, r.2) := by
  first
  | (unfold kF; simp only [Res.is_ok, Res.is_bind, Res.is_out, Out.is_nx, Out.is_rt, Out.is_bk, Out.is_ct, Out.is_seq, Out.is_res, Out.is_ite, Res.is_ite]; done)
  | (unfold kF; simp only [Res.is_ok, Res.is_bind, Res.is_out, Out.is_nx, Out.is_rt, Out.is_seq, Out.is_res, Out.is_ite, Res.is_ite, mAdd])
  | rfl
theorem w_U {g : α → Res β} {f : S → Res (α × S)} : (kU g f s).Is E Qb = (f s).Is E fun r => (g r.1).Is E fun z => Qb (z, r.2) := by
  first
  | (unfold kU; simp only [Res.is_ok, Res.is_bind, Res.is_out, Out.is_nx, Out.is_rt, Out.is_bk, Out.is_ct, Out.is_seq, Out.is_res, Out.is_ite, Res.is_ite]; done)
  | (unfold kU; simp only [Res.is_ok, Res.is_bind, Res.is_out, Out.is_nx, Out.is_rt, Out.is_seq, Out.is_res, Out.is_ite, Res.is_ite, mAdd])
  | rfl
theorem w_B {g : α → β → Res γ} {f1 : S → Res (α × S)} {f2 : S → Res (β × S)} : (kB g f1 f2 s).Is E Qg = (f1 s).Is E fun r1 => (f2 r1.2).Is E fun r2 => (g r1.1 r2.1).Is E fun z => Qg (z, r2.2) := by
  first
  | (unfold kB; simp only [Res.is_ok, Res.is_bind, Res.is_out, Out.is_nx, Out.is_rt, Out.is_bk, Out.is_ct, Out.is_seq, Out.is_res, Out.is_ite, Res.is_ite]; done)
  | (unfold kB; simp only [Res.is_ok, Res.is_bind, Res.is_out, Out.is_nx, Out.is_rt, Out.is_seq, Out.is_res, Out.is_ite, Res.is_ite, mAdd])
  | rfl
theorem w_Cmp {g : α → β → Bool} {f1 : S → Res (α × S)} {f2 : S → Res (β × S)} : (kCmp g f1 f2 s).Is E QB = (f1 s).Is E fun r1 => (f2 r1.2).Is E fun r2 => QB (g r1.1 r2.1, r2.2) := by
  first
  | (unfold kCmp; simp only [Res.is_ok, Res.is_bind, Res.is_out, Out.is_nx, Out.is_rt, Out.is_bk, Out.is_ct, Out.is_seq, Out.is_res, Out.is_ite, Res.is_ite]; done)
  | (unfold kCmp; simp only [Res.is_ok, Res.is_bind, Res.is_out, Out.is_nx, Out.is_rt, Out.is_seq, Out.is_res, Out.is_ite, Res.is_ite, mAdd])
  | rfl
theorem w_And {f g : S → Res (Bool × S)} : (kAnd f g s).Is E QB = (f s).Is E fun r => if r.1 = true then (g r.2).Is E QB else QB (false, r.2) := by
  first
  | (unfold kAnd; simp only [Res.is_ok, Res.is_bind, Res.is_out, Out.is_nx, Out.is_rt, Out.is_bk, Out.is_ct, Out.is_seq, Out.is_res, Out.is_ite, Res.is_ite]; done)
  | (unfold kAnd; simp only [Res.is_ok, Res.is_bind, Res.is_out, Out.is_nx, Out.is_rt, Out.is_seq, Out.is_res, Out.is_ite, Res.is_ite, mAdd])
  | rfl
theorem w_Or {f g : S → Res (Bool × S)} : (kOr f g s).Is E QB = (f s).Is E fun r => if r.1 = true then QB (true, r.2) else (g r.2).Is E QB := by
  first
  | (unfold kOr; simp only [Res.is_ok, Res.is_bind, Res.is_out, Out.is_nx, Out.is_rt, Out.is_bk, Out.is_ct, Out.is_seq, Out.is_res, Out.is_ite, Res.is_ite]; done)
  | (unfold kOr; simp only [Res.is_ok, Res.is_bind, Res.is_out, Out.is_nx, Out.is_rt, Out.is_seq, Out.is_res, Out.is_ite, Res.is_ite, mAdd])
  | rfl
theorem w_Ite {c : S → Res (Bool × S)} {a b : S → Res (α × S)} : (kIte c a b s).Is E Qa = (c s).Is E fun r => if r.1 = true then (a r.2).Is E Qa else (b r.2).Is E Qa := by
  first
  | (unfold kIte; simp only [Res.is_ok, Res.is_bind, Res.is_out, Out.is_nx, Out.is_rt, Out.is_bk, Out.is_ct, Out.is_seq, Out.is_res, Out.is_ite, Res.is_ite]; done)
  | (unfold kIte; simp only [Res.is_ok, Res.is_bind, Res.is_out, Out.is_nx, Out.is_rt, Out.is_seq, Out.is_res, Out.is_ite, Res.is_ite, mAdd])
  | rfl
theorem w_Chain {δ : Type} {g : α → β → Bool} {g' : β → δ → Bool} {fa : S → Res (α × S)} {fb : S → Res (β × S)} {fc : S → Res (δ × S)} : (kChain g g' fa fb fc s).Is E QB =
    (fa s).Is E fun r1 => (fb r1.2).Is E fun r2 => if g r1.1 r2.1 = true then (fc r2.2).Is E fun r3 => QB (g' r2.1 r3.1, r3.2) else QB (false, r2.2) := by
  first
  | (unfold kChain; simp only [Res.is_ok, Res.is_bind, Res.is_out, Out.is_nx, Out.is_rt, Out.is_bk, Out.is_ct, Out.is_seq, Out.is_res, Out.is_ite, Res.is_ite]; done)
  | (unfold kChain; simp only [Res.is_ok, Res.is_bind, Res.is_out, Out.is_nx, Out.is_rt, Out.is_seq, Out.is_res, Out.is_ite, Res.is_ite, mAdd])
  | rfl
theorem w_IxO {get : S → List α} {fb : S → Res (Int × S)} : (kIxO get fb s).Is E Qa = (fb s).Is E fun r => (mIx (get r.2) r.1).Is E fun z => Qa (z, r.2) := by
  first
  | (unfold kIxO; simp only [Res.is_ok, Res.is_bind, Res.is_out, Out.is_nx, Out.is_rt, Out.is_bk, Out.is_ct, Out.is_seq, Out.is_res, Out.is_ite, Res.is_ite]; done)
  | (unfold kIxO; simp only [Res.is_ok, Res.is_bind, Res.is_out, Out.is_nx, Out.is_rt, Out.is_seq, Out.is_res, Out.is_ite, Res.is_ite, mAdd])
  | rfl
theorem w_LenO {get : S → List α} {Q : Int × S → Prop} : (kLenO get s).Is E Q = Q (((get s).length : Int), s) := by
  first
  | (unfold kLenO; simp only [Res.is_ok, Res.is_bind, Res.is_out, Out.is_nx, Out.is_rt, Out.is_bk, Out.is_ct, Out.is_seq, Out.is_res, Out.is_ite, Res.is_ite]; done)
  | (unfold kLenO; simp only [Res.is_ok, Res.is_bind, Res.is_out, Out.is_nx, Out.is_rt, Out.is_seq, Out.is_res, Out.is_ite, Res.is_ite, mAdd])
  | rfl
theorem w_Nil {Q : List α × S → Prop} : (kNil s).Is E Q = Q ([], s) := by
  first
  | (unfold kNil; simp only [Res.is_ok, Res.is_bind, Res.is_out, Out.is_nx, Out.is_rt, Out.is_bk, Out.is_ct, Out.is_seq, Out.is_res, Out.is_ite, Res.is_ite]; done)
  | (unfold kNil; simp only [Res.is_ok, Res.is_bind, Res.is_out, Out.is_nx, Out.is_rt, Out.is_seq, Out.is_res, Out.is_ite, Res.is_ite, mAdd])
  | rfl
theorem w_Cons {f : S → Res (α × S)} {g : S → Res (List α × S)} : (kCons f g s).Is E Ql = (f s).Is E fun r1 => (g r1.2).Is E fun r2 => Ql (r1.1 :: r2.1, r2.2) := by
  first
  | (unfold kCons; simp only [Res.is_ok, Res.is_bind, Res.is_out, Out.is_nx, Out.is_rt, Out.is_bk, Out.is_ct, Out.is_seq, Out.is_res, Out.is_ite, Res.is_ite]; done)
  | (unfold kCons; simp only [Res.is_ok, Res.is_bind, Res.is_out, Out.is_nx, Out.is_rt, Out.is_seq, Out.is_res, Out.is_ite, Res.is_ite, mAdd])
  | rfl
theorem w_U0 {Q : Unit × S → Prop} : (kU0 s).Is E Q = Q ((), s) := by
  first
  | (unfold kU0; simp only [Res.is_ok, Res.is_bind, Res.is_out, Out.is_nx, Out.is_rt, Out.is_bk, Out.is_ct, Out.is_seq, Out.is_res, Out.is_ite, Res.is_ite]; done)
  | (unfold kU0; simp only [Res.is_ok, Res.is_bind, Res.is_out, Out.is_nx, Out.is_rt, Out.is_seq, Out.is_res, Out.is_ite, Res.is_ite, mAdd])
  | rfl
theorem w_Pair {f : S → Res (α × S)} {g : S → Res (β × S)} {Q : (α × β) × S → Prop} : (kPair f g s).Is E Q = (f s).Is E fun r1 => (g r1.2).Is E fun r2 => Q ((r1.1, r2.1), r2.2) := by
  first
  | (unfold kPair; simp only [Res.is_ok, Res.is_bind, Res.is_out, Out.is_nx, Out.is_rt, Out.is_bk, Out.is_ct, Out.is_seq, Out.is_res, Out.is_ite, Res.is_ite]; done)
  | (unfold kPair; simp only [Res.is_ok, Res.is_bind, Res.is_out, Out.is_nx, Out.is_rt, Out.is_seq, Out.is_res, Out.is_ite, Res.is_ite, mAdd])
  | rfl
theorem w_CallL {m : List α × P → Res (ρ × List α)} {get : S → List α} {put : S → List α → S} {fa : S → Res (P × S)} {Q : ρ × S → Prop} : (kCallL m get put fa s).Is E Q = (fa s).Is E fun r => (m (get r.2, r.1)).Is E fun z => Q (z.1, put r.2 z.2) := by
  first
  | (unfold kCallL; simp only [Res.is_ok, Res.is_bind, Res.is_out, Out.is_nx, Out.is_rt, Out.is_bk, Out.is_ct, Out.is_seq, Out.is_res, Out.is_ite, Res.is_ite]; done)
  | (unfold kCallL; simp only [Res.is_ok, Res.is_bind, Res.is_out, Out.is_nx, Out.is_rt, Out.is_seq, Out.is_res, Out.is_ite, Res.is_ite, mAdd])
  | rfl
theorem w_Make {m : Unit × P → Res α} {fa : S → Res (P × S)} : (kMake m fa s).Is E Qa = (fa s).Is E fun r => (m ((), r.1)).Is E fun z => Qa (z, r.2) := by
  first
  | (unfold kMake; simp only [Res.is_ok, Res.is_bind, Res.is_out, Out.is_nx, Out.is_rt, Out.is_bk, Out.is_ct, Out.is_seq, Out.is_res, Out.is_ite, Res.is_ite]; done)
  | (unfold kMake; simp only [Res.is_ok, Res.is_bind, Res.is_out, Out.is_nx, Out.is_rt, Out.is_seq, Out.is_res, Out.is_ite, Res.is_ite, mAdd])
  | rfl
theorem w_Lc {fi : S → Res (List ι × S)} {put : S → ι → S} {fe : S → Res (β × S)} {Q : List β × S → Prop} : (kLc fi put fe s).Is E Q = (fi s).Is E fun r => (mComp (fun x s => (fe (put s x)).bind fun q => .ok (some q.1, q.2)) r.1 r.2).Is E Q := by
  first
  | (unfold kLc; simp only [Res.is_ok, Res.is_bind, Res.is_out, Out.is_nx, Out.is_rt, Out.is_bk, Out.is_ct, Out.is_seq, Out.is_res, Out.is_ite, Res.is_ite]; done)
  | (unfold kLc; simp only [Res.is_ok, Res.is_bind, Res.is_out, Out.is_nx, Out.is_rt, Out.is_seq, Out.is_res, Out.is_ite, Res.is_ite, mAdd])
  | rfl
theorem w_LcIf {fi : S → Res (List ι × S)} {put : S → ι → S} {ft : S → Res (Bool × S)} {fe : S → Res (β × S)} {Q : List β × S → Prop} : (kLcIf fi put ft fe s).Is E Q = (fi s).Is E fun r => (mComp (fun x s => (ft (put s x)).bind fun b => if b.1 = true then (fe b.2).bind fun q => .ok (some q.1, q.2) else .ok (none, b.2)) r.1 r.2).Is E Q := by
  first
  | (unfold kLcIf; simp only [Res.is_ok, Res.is_bind, Res.is_out, Out.is_nx, Out.is_rt, Out.is_bk, Out.is_ct, Out.is_seq, Out.is_res, Out.is_ite, Res.is_ite]; done)
  | (unfold kLcIf; simp only [Res.is_ok, Res.is_bind, Res.is_out, Out.is_nx, Out.is_rt, Out.is_seq, Out.is_res, Out.is_ite, Res.is_ite, mAdd])
  | rfl
theorem w_Pop {get : S → List α} {put : S → List α → S} : (kPop get put s).Is E Qa = (mPop (get s)).Is E fun r => Qa (r.1, put s r.2) := by
  first
  | (unfold kPop; simp only [Res.is_ok, Res.is_bind, Res.is_out, Out.is_nx, Out.is_rt, Out.is_bk, Out.is_ct, Out.is_seq, Out.is_res, Out.is_ite, Res.is_ite]; done)
  | (unfold kPop; simp only [Res.is_ok, Res.is_bind, Res.is_out, Out.is_nx, Out.is_rt, Out.is_seq, Out.is_res, Out.is_ite, Res.is_ite, mAdd])
  | rfl
theorem w_DGet {get : S → List (Int × β)} {f : S → Res (Int × S)} : (kDGet get f s).Is E Qb = (f s).Is E fun r => (mDGet (get r.2) r.1).Is E fun z => Qb (z, r.2) := by
  first
  | (unfold kDGet; simp only [Res.is_ok, Res.is_bind, Res.is_out, Out.is_nx, Out.is_rt, Out.is_bk, Out.is_ct, Out.is_seq, Out.is_res, Out.is_ite, Res.is_ite]; done)
  | (unfold kDGet; simp only [Res.is_ok, Res.is_bind, Res.is_out, Out.is_nx, Out.is_rt, Out.is_seq, Out.is_res, Out.is_ite, Res.is_ite, mAdd])
  | rfl
theorem w_DGetN {get : S → List (Int × β)} {f : S → Res (Int × S)} {Q : Option β × S → Prop} : (kDGetN get f s).Is E Q = (f s).Is E fun r => Q (dGet (get r.2) r.1, r.2) := by
  first
  | (unfold kDGetN; simp only [Res.is_ok, Res.is_bind, Res.is_out, Out.is_nx, Out.is_rt, Out.is_bk, Out.is_ct, Out.is_seq, Out.is_res, Out.is_ite, Res.is_ite]; done)
  | (unfold kDGetN; simp only [Res.is_ok, Res.is_bind, Res.is_out, Out.is_nx, Out.is_rt, Out.is_seq, Out.is_res, Out.is_ite, Res.is_ite, mAdd])
  | rfl
theorem w_DIn {get : S → List (Int × β)} {f : S → Res (Int × S)} : (kDIn get f s).Is E QB = (f s).Is E fun r => QB ((dGet (get r.2) r.1).isSome, r.2) := by
  first
  | (unfold kDIn; simp only [Res.is_ok, Res.is_bind, Res.is_out, Out.is_nx, Out.is_rt, Out.is_bk, Out.is_ct, Out.is_seq, Out.is_res, Out.is_ite, Res.is_ite]; done)
  | (unfold kDIn; simp only [Res.is_ok, Res.is_bind, Res.is_out, Out.is_nx, Out.is_rt, Out.is_seq, Out.is_res, Out.is_ite, Res.is_ite, mAdd])
  | rfl
theorem w_DNin {get : S → List (Int × β)} {f : S → Res (Int × S)} : (kDNin get f s).Is E QB = (f s).Is E fun r => QB (!(dGet (get r.2) r.1).isSome, r.2) := by
  first
  | (unfold kDNin; simp only [Res.is_ok, Res.is_bind, Res.is_out, Out.is_nx, Out.is_rt, Out.is_bk, Out.is_ct, Out.is_seq, Out.is_res, Out.is_ite, Res.is_ite]; done)
  | (unfold kDNin; simp only [Res.is_ok, Res.is_bind, Res.is_out, Out.is_nx, Out.is_rt, Out.is_seq, Out.is_res, Out.is_ite, Res.is_ite, mAdd])
  | rfl
theorem w_InO [DecidableEq α] {get : S → List α} {f : S → Res (α × S)} : (kInO get f s).Is E QB = (f s).Is E fun r => QB (decide (r.1 ∈ get r.2), r.2) := by
  first
  | (unfold kInO; simp only [Res.is_ok, Res.is_bind, Res.is_out, Out.is_nx, Out.is_rt, Out.is_bk, Out.is_ct, Out.is_seq, Out.is_res, Out.is_ite, Res.is_ite]; done)
  | (unfold kInO; simp only [Res.is_ok, Res.is_bind, Res.is_out, Out.is_nx, Out.is_rt, Out.is_seq, Out.is_res, Out.is_ite, Res.is_ite, mAdd])
  | rfl
theorem w_NinO [DecidableEq α] {get : S → List α} {f : S → Res (α × S)} : (kNinO get f s).Is E QB = (f s).Is E fun r => QB (!decide (r.1 ∈ get r.2), r.2) := by
  first
  | (unfold kNinO; simp only [Res.is_ok, Res.is_bind, Res.is_out, Out.is_nx, Out.is_rt, Out.is_bk, Out.is_ct, Out.is_seq, Out.is_res, Out.is_ite, Res.is_ite]; done)
  | (unfold kNinO; simp only [Res.is_ok, Res.is_bind, Res.is_out, Out.is_nx, Out.is_rt, Out.is_seq, Out.is_res, Out.is_ite, Res.is_ite, mAdd])
  | rfl
theorem w_D1 {fk : S → Res (Int × S)} {fv : S → Res (β × S)} {Q : List (Int × β) × S → Prop} : (kD1 fk fv s).Is E Q = (fk s).Is E fun r => (fv r.2).Is E fun q => Q ([(r.1, q.1)], q.2) := by
  first
  | (unfold kD1; simp only [Res.is_ok, Res.is_bind, Res.is_out, Out.is_nx, Out.is_rt, Out.is_bk, Out.is_ct, Out.is_seq, Out.is_res, Out.is_ite, Res.is_ite]; done)
  | (unfold kD1; simp only [Res.is_ok, Res.is_bind, Res.is_out, Out.is_nx, Out.is_rt, Out.is_seq, Out.is_res, Out.is_ite, Res.is_ite, mAdd])
  | rfl
theorem w_Range1 {f : S → Res (Int × S)} {Q : List Int × S → Prop} : (kRange1 f s).Is E Q = (f s).Is E fun r => (mRange 0 r.1).Is E fun xs => Q (xs, r.2) := by
  first
  | (unfold kRange1; simp only [Res.is_ok, Res.is_bind, Res.is_out, Out.is_nx, Out.is_rt, Out.is_bk, Out.is_ct, Out.is_seq, Out.is_res, Out.is_ite, Res.is_ite]; done)
  | (unfold kRange1; simp only [Res.is_ok, Res.is_bind, Res.is_out, Out.is_nx, Out.is_rt, Out.is_seq, Out.is_res, Out.is_ite, Res.is_ite, mAdd])
  | rfl
theorem w_Range2 {f f' : S → Res (Int × S)} {Q : List Int × S → Prop} : (kRange2 f f' s).Is E Q = (f s).Is E fun r => (f' r.2).Is E fun r' => (mRange r.1 r'.1).Is E fun xs => Q (xs, r'.2) := by
  first
  | (unfold kRange2; simp only [Res.is_ok, Res.is_bind, Res.is_out, Out.is_nx, Out.is_rt, Out.is_bk, Out.is_ct, Out.is_seq, Out.is_res, Out.is_ite, Res.is_ite]; done)
  | (unfold kRange2; simp only [Res.is_ok, Res.is_bind, Res.is_out, Out.is_nx, Out.is_rt, Out.is_seq, Out.is_res, Out.is_ite, Res.is_ite, mAdd])
  | rfl
theorem w_Set {f : S → Res (α × S)} {put : S → α → S'} : (kSet f put s : Out S' L ρ).Is E R B C Q = (f s).Is E fun r => Q (put r.2 r.1) := by
  first
  | (unfold kSet; simp only [Res.is_ok, Res.is_bind, Res.is_out, Out.is_nx, Out.is_rt, Out.is_bk, Out.is_ct, Out.is_seq, Out.is_res, Out.is_ite, Res.is_ite]; done)
  | (unfold kSet; simp only [Res.is_ok, Res.is_bind, Res.is_out, Out.is_nx, Out.is_rt, Out.is_seq, Out.is_res, Out.is_ite, Res.is_ite, mAdd])
  | rfl
theorem w_Expr {f : S → Res (α × S)} : (kExpr f s : Out S L ρ).Is E R B C QS = (f s).Is E fun r => QS r.2 := by
  first
  | (unfold kExpr; simp only [Res.is_ok, Res.is_bind, Res.is_out, Out.is_nx, Out.is_rt, Out.is_bk, Out.is_ct, Out.is_seq, Out.is_res, Out.is_ite, Res.is_ite]; done)
  | (unfold kExpr; simp only [Res.is_ok, Res.is_bind, Res.is_out, Out.is_nx, Out.is_rt, Out.is_seq, Out.is_res, Out.is_ite, Res.is_ite, mAdd])
  | rfl
theorem w_App {get : S → List α} {put : S → List α → S} {f : S → Res (α × S)} : (kApp get put f s : Out S L ρ).Is E R B C QS = (f s).Is E fun r => (mApp (get r.2) r.1).Is E fun z => QS (put r.2 z) := by
  first
  | (unfold kApp; simp only [Res.is_ok, Res.is_bind, Res.is_out, Out.is_nx, Out.is_rt, Out.is_bk, Out.is_ct, Out.is_seq, Out.is_res, Out.is_ite, Res.is_ite]; done)
  | (unfold kApp; simp only [Res.is_ok, Res.is_bind, Res.is_out, Out.is_nx, Out.is_rt, Out.is_seq, Out.is_res, Out.is_ite, Res.is_ite, mAdd])
  | rfl
theorem w_Rev {get : S → List α} {put : S → List α → S} : (kRev get put s : Out S L ρ).Is E R B C QS = QS (put s (get s).reverse) := by
  first
  | (unfold kRev; simp only [Res.is_ok, Res.is_bind, Res.is_out, Out.is_nx, Out.is_rt, Out.is_bk, Out.is_ct, Out.is_seq, Out.is_res, Out.is_ite, Res.is_ite]; done)
  | (unfold kRev; simp only [Res.is_ok, Res.is_bind, Res.is_out, Out.is_nx, Out.is_rt, Out.is_seq, Out.is_res, Out.is_ite, Res.is_ite, mAdd])
  | rfl
theorem w_Store {get : S → List α} {put : S → List α → S} {f : S → Res (α × S)} {fi : S → Res (Int × S)} : (kStore get put f fi s : Out S L ρ).Is E R B C QS = (f s).Is E fun r => (fi r.2).Is E fun q => (mSet (get q.2) q.1 r.1).Is E fun z => QS (put q.2 z) := by
  first
  | (unfold kStore; simp only [Res.is_ok, Res.is_bind, Res.is_out, Out.is_nx, Out.is_rt, Out.is_bk, Out.is_ct, Out.is_seq, Out.is_res, Out.is_ite, Res.is_ite]; done)
  | (unfold kStore; simp only [Res.is_ok, Res.is_bind, Res.is_out, Out.is_nx, Out.is_rt, Out.is_seq, Out.is_res, Out.is_ite, Res.is_ite, mAdd])
  | rfl
theorem w_AddI {get : S → Int} {put : S → Int → S} {f : S → Res (Int × S)} : (kAddI get put f s : Out S L ρ).Is E R B C QS = (f s).Is E fun r => QS (put r.2 (get s + r.1)) := by
  first
  | (unfold kAddI; simp only [Res.is_ok, Res.is_bind, Res.is_out, Out.is_nx, Out.is_rt, Out.is_bk, Out.is_ct, Out.is_seq, Out.is_res, Out.is_ite, Res.is_ite]; done)
  | (unfold kAddI; simp only [Res.is_ok, Res.is_bind, Res.is_out, Out.is_nx, Out.is_rt, Out.is_seq, Out.is_res, Out.is_ite, Res.is_ite, mAdd])
  | rfl
theorem w_DPut {get : S → List (Int × β)} {put : S → List (Int × β) → S} {f : S → Res (Int × S)} {fv : S → Res (β × S)} : (kDPut get put f fv s : Out S L ρ).Is E R B C QS = (fv s).Is E fun r => (f r.2).Is E fun q => (mDPut (get q.2) q.1 r.1).Is E fun z => QS (put q.2 z) := by
  first
  | (unfold kDPut; simp only [Res.is_ok, Res.is_bind, Res.is_out, Out.is_nx, Out.is_rt, Out.is_bk, Out.is_ct, Out.is_seq, Out.is_res, Out.is_ite, Res.is_ite]; done)
  | (unfold kDPut; simp only [Res.is_ok, Res.is_bind, Res.is_out, Out.is_nx, Out.is_rt, Out.is_seq, Out.is_res, Out.is_ite, Res.is_ite, mAdd])
  | rfl
theorem w_If {c : S → Res (Bool × S)} {a b : S → Out S' L ρ} : (kIf c a b s).Is E R B C Q = (c s).Is E fun r => if r.1 = true then (a r.2).Is E R B C Q else (b r.2).Is E R B C Q := by
  first
  | (unfold kIf; simp only [Res.is_ok, Res.is_bind, Res.is_out, Out.is_nx, Out.is_rt, Out.is_bk, Out.is_ct, Out.is_seq, Out.is_res, Out.is_ite, Res.is_ite]; done)
  | (unfold kIf; simp only [Res.is_ok, Res.is_bind, Res.is_out, Out.is_nx, Out.is_rt, Out.is_seq, Out.is_res, Out.is_ite, Res.is_ite, mAdd])
  | rfl
theorem w_For {fi : S → Res (List ι × S)} {put : S → ι → L1} {fb : L1 → Out S S ρ} : (kFor fi put fb s : Out S L ρ).Is E R B C QS = (fi s).Is E fun r => (forM (fun x l => fb (put l x)) r.1 r.2 : Out S L ρ).Is E R B C QS := by
  first
  | (unfold kFor; simp only [Res.is_ok, Res.is_bind, Res.is_out, Out.is_nx, Out.is_rt, Out.is_bk, Out.is_ct, Out.is_seq, Out.is_res, Out.is_ite, Res.is_ite]; done)
  | (unfold kFor; simp only [Res.is_ok, Res.is_bind, Res.is_out, Out.is_nx, Out.is_rt, Out.is_seq, Out.is_res, Out.is_ite, Res.is_ite, mAdd])
  | rfl
theorem w_While {fc : S → Res (Bool × S)} {fb : S → Out S S ρ} : (kWhile fc fb s : Out S L ρ).Is E R B C QS = (whileM fc fb s : Out S L ρ).Is E R B C QS := by
  first
  | (unfold kWhile; simp only [Res.is_ok, Res.is_bind, Res.is_out, Out.is_nx, Out.is_rt, Out.is_bk, Out.is_ct, Out.is_seq, Out.is_res, Out.is_ite, Res.is_ite]; done)
  | (unfold kWhile; simp only [Res.is_ok, Res.is_bind, Res.is_out, Out.is_nx, Out.is_rt, Out.is_seq, Out.is_res, Out.is_ite, Res.is_ite, mAdd])
  | rfl
theorem w_Nx : (kNx s : Out S L ρ).Is E R B C QS = QS s := by
  first
  | (unfold kNx; simp only [Res.is_ok, Res.is_bind, Res.is_out, Out.is_nx, Out.is_rt, Out.is_bk, Out.is_ct, Out.is_seq, Out.is_res, Out.is_ite, Res.is_ite]; done)
  | (unfold kNx; simp only [Res.is_ok, Res.is_bind, Res.is_out, Out.is_nx, Out.is_rt, Out.is_seq, Out.is_res, Out.is_ite, Res.is_ite, mAdd])
  | rfl
theorem w_Seq {f : S → Out S2 L ρ} {g : S2 → Out S' L ρ} : (kSeq f g s).Is E R B C Q = (f s).Is E R B C fun s' => (g s').Is E R B C Q := by
  first
  | (unfold kSeq; simp only [Res.is_ok, Res.is_bind, Res.is_out, Out.is_nx, Out.is_rt, Out.is_bk, Out.is_ct, Out.is_seq, Out.is_res, Out.is_ite, Res.is_ite]; done)
  | (unfold kSeq; simp only [Res.is_ok, Res.is_bind, Res.is_out, Out.is_nx, Out.is_rt, Out.is_seq, Out.is_res, Out.is_ite, Res.is_ite, mAdd])
  | rfl
theorem w_Ret {f : S → Res (ρ × S)} : (kRet f s : Out S' L ρ).Is E R B C Q = (f s).Is E fun r => R r.1 := by
  first
  | (unfold kRet; simp only [Res.is_ok, Res.is_bind, Res.is_out, Out.is_nx, Out.is_rt, Out.is_bk, Out.is_ct, Out.is_seq, Out.is_res, Out.is_ite, Res.is_ite]; done)
  | (unfold kRet; simp only [Res.is_ok, Res.is_bind, Res.is_out, Out.is_nx, Out.is_rt, Out.is_seq, Out.is_res, Out.is_ite, Res.is_ite, mAdd])
  | rfl
theorem w_RetL {get : S → β} {f : S → Res (α × S)} {R : α × β → Prop} : (kRetL get f s : Out S' L (α × β)).Is E R B C Q = (f s).Is E fun r => R (r.1, get r.2) := by
  first
  | (unfold kRetL; simp only [Res.is_ok, Res.is_bind, Res.is_out, Out.is_nx, Out.is_rt, Out.is_bk, Out.is_ct, Out.is_seq, Out.is_res, Out.is_ite, Res.is_ite]; done)
  | (unfold kRetL; simp only [Res.is_ok, Res.is_bind, Res.is_out, Out.is_nx, Out.is_rt, Out.is_seq, Out.is_res, Out.is_ite, Res.is_ite, mAdd])
  | rfl
theorem w_FldNew {get : S → α} {put : S → α × β → S'} {f : S → Res (β × S)} : (kFldNew get put f s : Out S' L ρ).Is E R B C Q = (f s).Is E fun r => Q (put r.2 (get r.2, r.1)) := by
  first
  | (unfold kFldNew; simp only [Res.is_ok, Res.is_bind, Res.is_out, Out.is_nx, Out.is_rt, Out.is_bk, Out.is_ct, Out.is_seq, Out.is_res, Out.is_ite, Res.is_ite]; done)
  | (unfold kFldNew; simp only [Res.is_ok, Res.is_bind, Res.is_out, Out.is_nx, Out.is_rt, Out.is_seq, Out.is_res, Out.is_ite, Res.is_ite, mAdd])
  | rfl
theorem w_Bk {s : L} : (kBk s : Out S' L ρ).Is E R B C Q = B s := by
  first
  | (unfold kBk; simp only [Res.is_ok, Res.is_bind, Res.is_out, Out.is_nx, Out.is_rt, Out.is_bk, Out.is_ct, Out.is_seq, Out.is_res, Out.is_ite, Res.is_ite]; done)
  | (unfold kBk; simp only [Res.is_ok, Res.is_bind, Res.is_out, Out.is_nx, Out.is_rt, Out.is_seq, Out.is_res, Out.is_ite, Res.is_ite, mAdd])
  | rfl
theorem w_Ct {s : L} : (kCt s : Out S' L ρ).Is E R B C Q = C s := by
  first
  | (unfold kCt; simp only [Res.is_ok, Res.is_bind, Res.is_out, Out.is_nx, Out.is_rt, Out.is_bk, Out.is_ct, Out.is_seq, Out.is_res, Out.is_ite, Res.is_ite]; done)
  | (unfold kCt; simp only [Res.is_ok, Res.is_bind, Res.is_out, Out.is_nx, Out.is_rt, Out.is_seq, Out.is_res, Out.is_ite, Res.is_ite, mAdd])
  | rfl
theorem w_Run {fb : S → Out S' L ρ} {init : P → S} {fall : S' → Res ρ} {y : P} : (kRun fb init fall y).Is E Qr = (fb (init y)).Is E Qr (fun _ => False) (fun _ => False) (fun s => (fall s).Is E Qr) := by
  first
  | (unfold kRun; simp only [Res.is_ok, Res.is_bind, Res.is_out, Out.is_nx, Out.is_rt, Out.is_bk, Out.is_ct, Out.is_seq, Out.is_res, Out.is_ite, Res.is_ite]; done)
  | (unfold kRun; simp only [Res.is_ok, Res.is_bind, Res.is_out, Out.is_nx, Out.is_rt, Out.is_seq, Out.is_res, Out.is_ite, Res.is_ite, mAdd])
  | rfl
theorem isk {α : Type} {E : Ex → Prop} {Q : α → Prop} {a : α} (k : Q a) : (Res.ok a).Is E Q := by rw [Res.is_ok]; exact k
theorem is_mAdd {x y : Int} {Q : Int → Prop} : (mAdd x y).Is E Q = Q (x + y) := by unfold mAdd; exact Res.is_ok
theorem is_mSub {x y : Int} {Q : Int → Prop} : (mSub x y).Is E Q = Q (x - y) := by unfold mSub; exact Res.is_ok
theorem is_mMul {x y : Int} {Q : Int → Prop} (h : CMul x y) (k : Q (x * y)) : (mMul x y).Is E Q := by unfold mMul; rw [if_pos h]; exact isk k
theorem is_mMod {x y : Int} {Q : Int → Prop} (h : 0 < y) (k : Q (x % y)) : (mMod x y).Is E Q := by unfold mMod; rw [if_pos h]; exact isk k
theorem is_mDiv {x y : Int} {Q : Int → Prop} (h : CDiv x y) (k : Q (x / y)) : (mDiv x y).Is E Q := by unfold mDiv; rw [if_pos h]; exact isk k
theorem is_mRange {lo hi : Int} {Q : List Int → Prop} (h : -1000000 ≤ lo ∧ lo ≤ 1000000 ∧ -1000000 ≤ hi ∧ hi ≤ 1000000) (k : Q (irange lo hi)) : (mRange lo hi).Is E Q := by
  unfold mRange
  rw [if_pos (by omega)]
  exact isk k
theorem is_mIx {xs : List α} {i : Int} {Q : α → Prop} (x : α) (h0 : 0 ≤ i) (h : xs[i.toNat]? = some x) (k : Q x) : (mIx xs i).Is E Q := by
  unfold mIx
  have e : atI xs i = some x := by
    have := atI_nat (xs := xs) (j := i.toNat) h
    rwa [show ((i.toNat : Nat) : Int) = i by omega] at this
  rw [e]
  exact isk k
theorem is_mApp {xs : List α} {x : α} {Q : List α → Prop} (h : xs.length < 1000000) (k : Q (xs ++ [x])) : (mApp xs x).Is E Q := by
  unfold mApp; rw [if_pos (Nat.lt_of_lt_of_le h (by show 1000000 ≤ 2 ^ 24; decide))]; exact isk k
theorem is_mCat {xs ys : List α} {Q : List α → Prop} (h : xs.length + ys.length ≤ 1000000) (k : Q (xs ++ ys)) : (mCat xs ys).Is E Q := by
  unfold mCat; rw [if_pos (Nat.le_trans h (by show 1000000 ≤ 2 ^ 24; decide))]; exact isk k
theorem is_mSet {xs : List α} {i : Int} {x : α} {Q : List α → Prop} (h0 : 0 ≤ i) (h : i < (xs.length : Int)) (k : Q (xs.set i.toNat x)) : (mSet xs i x).Is E Q := by
  unfold mSet ixN
  rw [if_pos h0, if_pos h]
  exact isk k
theorem is_mPop {xs : List α} {Q : α × List α → Prop} (x : α) (h : xs.getLast? = some x) (k : Q (x, xs.dropLast)) : (mPop xs).Is E Q := by
  unfold mPop; rw [h]; exact isk k
theorem is_mDPut [DecidableEq α] {d : List (α × β)} {x : α} {y : β} {Q : List (α × β) → Prop} (h : d.length < 1000000) (k : Q (dPut d x y)) : (mDPut d x y).Is E Q := by
  unfold mDPut; rw [if_pos (Nat.lt_of_lt_of_le h (by show 1000000 ≤ 2 ^ 24; decide))]; exact isk k
theorem is_mDGet [DecidableEq α] {d : List (α × β)} {x : α} {Q : β → Prop} (y : β) (h : dGet d x = some y) (k : Q y) : (mDGet d x).Is E Q := by
  unfold mDGet; rw [h]; exact isk k
theorem irange_get {lo hi : Int} {i : Nat} {x : Int} (h : (irange lo hi)[i]? = some x) : x = lo + i ∧ i < (hi - lo).toNat := by
  unfold irange at h
  rw [List.getElem?_map] at h
  cases q : (List.range (hi - lo).toNat)[i]? with
  | none => rw [q] at h; cases h
  | some j =>
    rw [q] at h
    obtain ⟨h1, h2⟩ := List.getElem?_eq_some_iff.mp q
    rw [List.getElem_range] at h2
    rw [List.length_range] at h1
    subst h2
    cases h
    exact ⟨rfl, h1⟩
theorem big_line : (1000000 : Nat) ≤ sizeLine := by show 1000000 ≤ 2 ^ 24; decide
end
end TC
namespace TC
open PySem PySem.Spec PyProof.Rows L2
section
variable {XR : XRel} {W : WX} {X : Cx} {S S' S2 L ρ : Type} {G : Ctx S} {G' : Ctx S'} {G2 : Ctx S2} {α β γ : Type} {e a b c : Expr} {es : List Expr} {pos : Pos} {p p1 p2 p3 : Bool}
/-! ### repetition -/
theorem em_repL {T : Ty α} {fa : S → Res (List α × S)} {fb : S → Res (Int × S)} (ha : EM XR W X p1 G a (fz (tLst T)) fa) (hb : EM XR W X p2 G b (fz tInt) fb) :
    EM XR W X (p1 && p2) G (.BinOp a .Mult b pos) (oL T) (fun s => (fa s).bind fun r1 => (fb r1.2).bind fun r2 => (mRep r1.1 r2.1).bind fun z => .ok (z, r2.2)) :=
  em_op2 (T1 := tLst T) (T2 := tInt) (g := mRep) (fun _ _ => pe_op op_rep) (fun F H v u x y Q ⟨a, vs, ev, q, r⟩ ru s h nb _ => by
    unfold mRep at h nb
    by_cases hz : -(2 ^ 63) ≤ y ∧ y < 2 ^ 63 ∧ x.length * y.toNat ≤ sizeLine
    · rw [if_pos hz] at h
      exact ⟨a, y, vs, ev, ru, s _ _ q, hz.1, hz.2.1, by rw [r.length]; exact hz.2.2, fun p n => lay_list (r.rep _) s n (h _ rfl)⟩
    · rw [if_neg hz] at nb; exact absurd rfl nb) (fun x y ex => by unfold mRep; exact ifne) ha hb

/-! ### sum, max, min -/
theorem ints_map {F : Hp} : ∀ {vs : List V} {xs : List Int}, All2 (tInt.R F) vs xs → vs = xs.map V.int
  | [], [], _ => rfl
  | _ :: _, _ :: _, h => by rw [List.map_cons, ← ints_map h.2]; exact congrArg (· :: _) h.1
  | [], _ :: _, h => h.elim
  | _ :: _, [], h => h.elim
def mMax (xs : List Int) : Res Int := match xs with
  | [] => .bad
  | x :: xs => .ok (xs.foldl max x)
def mMin (xs : List Int) : Res Int := match xs with
  | [] => .bad
  | x :: xs => .ok (xs.foldl min x)
theorem mMax_ne {xs : List Int} {ex : Ex} : mMax xs ≠ .er ex := by unfold mMax; split <;> (intro h; cases h)
theorem mMin_ne {xs : List Int} {ex : Ex} : mMin xs ≠ .er ex := by unfold mMin; split <;> (intro h; cases h)
theorem max_is : ∀ (r : List Int) (a : Int), (r.foldl max a = a ∨ r.foldl max a ∈ r) ∧ a ≤ r.foldl max a ∧ ∀ x ∈ r, x ≤ r.foldl max a
  | [], a => ⟨.inl rfl, Int.le_refl _, fun _ h => nomatch h⟩
  | b :: r, a => by
    obtain ⟨h1, h2, h3⟩ := max_is r (max a b)
    rw [List.foldl_cons]
    refine ⟨?_, by omega, fun x hx => ?_⟩
    · rcases h1 with q | q
      · rw [q]
        rcases (by omega : max a b = a ∨ max a b = b) with e | e
        · exact .inl e
        · exact .inr (by rw [e]; exact List.mem_cons_self)
      · exact .inr (List.mem_cons_of_mem _ q)
    · rcases List.mem_cons.mp hx with e | q
      · omega
      · exact h3 x q
theorem min_is : ∀ (r : List Int) (a : Int), (r.foldl min a = a ∨ r.foldl min a ∈ r) ∧ r.foldl min a ≤ a ∧ ∀ x ∈ r, r.foldl min a ≤ x
  | [], a => ⟨.inl rfl, Int.le_refl _, fun _ h => nomatch h⟩
  | b :: r, a => by
    obtain ⟨h1, h2, h3⟩ := min_is r (min a b)
    rw [List.foldl_cons]
    refine ⟨?_, by omega, fun x hx => ?_⟩
    · rcases h1 with q | q
      · rw [q]
        rcases (by omega : min a b = a ∨ min a b = b) with e | e
        · exact .inl e
        · exact .inr (by rw [e]; exact List.mem_cons_self)
      · exact .inr (List.mem_cons_of_mem _ q)
    · rcases List.mem_cons.mp hx with e | q
      · omega
      · exact h3 x q
theorem max_eq {x m : Int} {xs : List Int} (hm : m ∈ x :: xs) (h : ∀ y ∈ x :: xs, y ≤ m) : m = xs.foldl max x := by
  obtain ⟨h1, h2, h3⟩ := max_is xs x
  have k1 : m ≤ xs.foldl max x := by
    rcases List.mem_cons.mp hm with e | q
    · omega
    · exact h3 m q
  have k2 : xs.foldl max x ≤ m := by
    rcases h1 with q | q
    · rw [q]; exact h x List.mem_cons_self
    · exact h _ (List.mem_cons_of_mem _ q)
  omega
theorem min_eq {x m : Int} {xs : List Int} (hm : m ∈ x :: xs) (h : ∀ y ∈ x :: xs, m ≤ y) : m = xs.foldl min x := by
  obtain ⟨h1, h2, h3⟩ := min_is xs x
  have k1 : xs.foldl min x ≤ m := by
    rcases List.mem_cons.mp hm with e | q
    · omega
    · exact h3 m q
  have k2 : m ≤ xs.foldl min x := by
    rcases h1 with q | q
    · rw [q]; exact h x List.mem_cons_self
    · exact h _ (List.mem_cons_of_mem _ q)
  omega
section
variable {fa : S → Res (List Int × S)} {pp : Pos}
theorem em_sumL (hc : X.calm = true) (hg : L2.Gl X "sum") (hm : X.mg "sum" = none) (ha : EM XR W X p G a (fz (tLst tInt)) fa) (hs : starEach [a] X.env = [(false, eval a X.env)] := by rfl) : EM XR W X p G (.Call (.Name "sum" pp) [a] [] pos) (fz tInt) (fun s => (fa s).bind fun r1 => (Res.ok r1.1.sum).bind fun z => .ok (z, r1.2)) :=
  em_callB (T := tLst tInt) (g := fun x => .ok x.sum) (cr_sum hc) hg hm (by decide +kernel) (fun F H v x Q ⟨a, vs, ev, q, r⟩ s h _ _ => ⟨a, x, by rw [ev], by rw [← ints_map r]; exact SqL.of (s _ _ q), h _ rfl _ F H [] ⟨rfl, rfl⟩ (Ext.refl (holds_nil s))⟩) (fun _ _ => okne) ha hs
theorem em_maxL (hc : X.calm = true) (hg : L2.Gl X "max") (hm : X.mg "max" = none) (ha : EM XR W X p G a (fz (tLst tInt)) fa) (hs : starEach [a] X.env = [(false, eval a X.env)] := by rfl) : EM XR W X p G (.Call (.Name "max" pp) [a] [] pos) (fz tInt) (fun s => (fa s).bind fun r1 => (mMax r1.1).bind fun z => .ok (z, r1.2)) :=
  em_callB (T := tLst tInt) (g := mMax) (cr_max hc) hg hm (by decide +kernel) (fun F H v x Q ⟨a, vs, ev, q, r⟩ s h nb _ => by
    cases x with
    | nil => exact absurd rfl nb
    | cons y ys =>
      refine ⟨a, y :: ys, by rw [ev], by rw [← ints_map r]; exact SqL.of (s _ _ q), Nat.succ_pos _, fun m hm hle => ?_⟩
      rw [max_eq hm hle]
      exact h _ rfl _ F H [] ⟨rfl, rfl⟩ (Ext.refl (holds_nil s))) (fun _ _ => mMax_ne) ha hs
theorem em_minL (hc : X.calm = true) (hg : L2.Gl X "min") (hm : X.mg "min" = none) (ha : EM XR W X p G a (fz (tLst tInt)) fa) (hs : starEach [a] X.env = [(false, eval a X.env)] := by rfl) : EM XR W X p G (.Call (.Name "min" pp) [a] [] pos) (fz tInt) (fun s => (fa s).bind fun r1 => (mMin r1.1).bind fun z => .ok (z, r1.2)) :=
  em_callB (T := tLst tInt) (g := mMin) (cr_min hc) hg hm (by decide +kernel) (fun F H v x Q ⟨a, vs, ev, q, r⟩ s h nb _ => by
    cases x with
    | nil => exact absurd rfl nb
    | cons y ys =>
      refine ⟨a, y :: ys, by rw [ev], by rw [← ints_map r]; exact SqL.of (s _ _ q), Nat.succ_pos _, fun m hm hle => ?_⟩
      rw [min_eq hm hle]
      exact h _ rfl _ F H [] ⟨rfl, rfl⟩ (Ext.refl (holds_nil s))) (fun _ _ => mMin_ne) ha hs
end
/-- max(t), a tuple of ints -/
def rMaxT (K : PySem.W.Frag) : List V → Hp → VK → Prop := fun vs H Q => ∃ (a : Addr) (n : Int) (ns : List Int), vs = [V.ref a] ∧ SqT K H a ((n :: ns).map V.int) ∧ Q (.int (ns.foldl max n)) H
theorem reads_ints {h : Heap} : ∀ {us : List Value} {ns : List Int}, Vals (ns.map V.int) us → PySem.ReadsAll h us (ns.map PyData.int) [] := by
  intro us ns r
  induction ns generalizing us with
  | nil => cases r; exact .nil
  | cons n ns ih =>
    rw [List.map_cons] at r
    cases r with
    | cons r1 r2 =>
      obtain ⟨t, rfl⟩ := r1
      exact PySem.ReadsAll.cons (as := []) (.int _ _) (ih r2)
theorem cr_maxT (hc : X.calm = true) (hu : X.A.units + 64 < cLine) : CallR X (.builtin "max") (rMaxT X.K) := by
  intro pins s σ H vs us Q I r h
  obtain ⟨a, n, ns, rfl, hs, q⟩ := h
  obtain ⟨its, rv, hl, _⟩ := I.tuple hs
  rw [Vals.ref1 r]
  refine PySem.W.max_tuple_datum (α := Int) (x := n) (xs := ns) (I.ok.hd hc) hl ⟨[], ?_⟩ ?_ ?_
  · exact reads_ints rv
  · show X.A.units + 1 + 0 < cLine
    omega
  · intro i v h' tk _ hv hk
    obtain ⟨as, hr⟩ := hv
    have e : PySem.W.maxOf n ns = ns.foldl max n := by
      unfold PySem.W.maxOf
      congr 1
      funext a y
      show (if decide (a < y) = true then y else a) = max a y
      rcases Int.lt_or_le a y with q | q
      · rw [if_pos (decide_eq_true q)]; omega
      · rw [if_neg (by simpa using q)]; omega
    rw [e] at hr
    have hr : PySem.Reads h' v (.int (ns.foldl max n)) as := hr
    cases hr
    exact ⟨.int _, H, I.kept hk, ⟨_, rfl⟩, q⟩
theorem em_maxT {fa : S → Res (List Int × S)} {pp : Pos} (hc : X.calm = true) (hu : X.A.units + 64 < cLine) (hg : L2.Gl X "max") (hm : X.mg "max" = none) (ha : EM XR W X p G a (fz (tTup tInt)) fa) (hs : starEach [a] X.env = [(false, eval a X.env)] := by rfl) : EM XR W X p G (.Call (.Name "max" pp) [a] [] pos) (fz tInt) (fun s => (fa s).bind fun r1 => (mMax r1.1).bind fun z => .ok (z, r1.2)) :=
  em_callB (T := tTup tInt) (g := mMax) (cr_maxT hc hu) hg hm (by decide +kernel) (fun F H v x Q ⟨a, vs, ev, q, r⟩ s h nb _ => by
    cases x with
    | nil => exact absurd rfl nb
    | cons y ys =>
      exact ⟨a, y, ys, by rw [ev], by rw [← ints_map r]; exact SqT.of (s _ _ q), h _ rfl _ F H [] ⟨rfl, rfl⟩ (Ext.refl (holds_nil s))⟩) (fun _ _ => mMax_ne) ha hs
/-- max(a, b), min(a, b) -/
theorem em_callB2 {id : String} {x : Str} {pp : Pos} {r : List V → Hp → VK → Prop} {T1 : Ty α} {T2 : Ty β} {g : α → β → Res γ} {R : Rl γ} {fa : S → Res (α × S)} {fb : S → Res (β × S)} (hc : CallR X (.builtin id) r) (hg : L2.Gl X x) (hm : X.mg x = none) (hv : bootBuiltins x = some (.builtin id))
    (ho : Op2 (fun v u H Q => r [v, u] H Q) T1 T2 g R) (ne : ∀ x y ex, g x y ≠ .er ex) (ha : EM XR W X p1 G a (fz T1) fa) (hb : EM XR W X p2 G b (fz T2) fb) (hs : starEach [a, b] X.env = (false, eval a X.env) :: starEach [b] X.env := by rfl) (hs2 : starEach [b] X.env = [(false, eval b X.env)] := by rfl) (hpl : (backTo pos (starEach [b] X.env)).any (·.1) = false := by rfl) (hn : x ≠ "__name__" := by decide) (hdb : (x == ("__debug__" : Str)) = false := by decide) :
    EM XR W X (p1 && p2) G (.Call (.Name x pp) [a, b] [] pos) R (fun s => (fa s).bind fun r1 => (fb r1.2).bind fun r2 => (g r1.1 r2.1).bind fun z => .ok (z, r2.2)) :=
  em_op2 (r := fun v u H Q => r [v, u] H Q) (fun _ _ u v => pe_callB hc hg hm hv (pa_cons u (pa_cons v pa_nil hs2) hs) hn hdb hs hpl) ho ne ha hb
section
variable {fa : S → Res (Int × S)} {fb : S → Res (Int × S)} {pp : Pos}
theorem em_max2 (hc : X.calm = true) (hg : L2.Gl X "max") (hm : X.mg "max" = none) (ha : EM XR W X p1 G a (fz tInt) fa) (hb : EM XR W X p2 G b (fz tInt) fb) (hs : starEach [a, b] X.env = (false, eval a X.env) :: starEach [b] X.env := by rfl) (hs2 : starEach [b] X.env = [(false, eval b X.env)] := by rfl) (hpl : (backTo pos (starEach [b] X.env)).any (·.1) = false := by rfl) :
    EM XR W X (p1 && p2) G (.Call (.Name "max" pp) [a, b] [] pos) (fz tInt) (fun s => (fa s).bind fun r1 => (fb r1.2).bind fun r2 => (Res.ok (max r1.1 r2.1)).bind fun z => .ok (z, r2.2)) :=
  em_callB2 (g := fun x y => .ok (max x y)) (call_max2 hc) hg hm (by decide +kernel) (fun F H v u x y Q rv ru s h _ _ => ⟨x, y, by rw [show v = .int x from rv, show u = .int y from ru], by
    have e : (if y > x then y else x) = max x y := by split <;> omega
    rw [e]; exact h _ rfl _ F H [] ⟨rfl, rfl⟩ (Ext.refl (holds_nil s))⟩) (fun _ _ _ => okne) ha hb hs hs2 hpl
theorem em_min2 (hc : X.calm = true) (hg : L2.Gl X "min") (hm : X.mg "min" = none) (ha : EM XR W X p1 G a (fz tInt) fa) (hb : EM XR W X p2 G b (fz tInt) fb) (hs : starEach [a, b] X.env = (false, eval a X.env) :: starEach [b] X.env := by rfl) (hs2 : starEach [b] X.env = [(false, eval b X.env)] := by rfl) (hpl : (backTo pos (starEach [b] X.env)).any (·.1) = false := by rfl) :
    EM XR W X (p1 && p2) G (.Call (.Name "min" pp) [a, b] [] pos) (fz tInt) (fun s => (fa s).bind fun r1 => (fb r1.2).bind fun r2 => (Res.ok (min r1.1 r2.1)).bind fun z => .ok (z, r2.2)) :=
  em_callB2 (g := fun x y => .ok (min x y)) (call_min2 hc) hg hm (by decide +kernel) (fun F H v u x y Q rv ru s h _ _ => ⟨x, y, by rw [show v = .int x from rv, show u = .int y from ru], by
    have e : (if y < x then y else x) = min x y := by split <;> omega
    rw [e]; exact h _ rfl _ F H [] ⟨rfl, rfl⟩ (Ext.refl (holds_nil s))⟩) (fun _ _ _ => okne) ha hb hs hs2 hpl
end
/-! ### xs.index(y) of a list that is frozen -/
def mIdx [DecidableEq α] (xs : List α) (y : α) : Res Int := if y ∈ xs then .ok (xs.idxOf y : Nat) else .bad
theorem mIdx_ne [DecidableEq α] {xs : List α} {y : α} {ex : Ex} : mIdx xs y ≠ .er ex := by unfold mIdx; exact ifne
theorem idx_at [DecidableEq α] {T : Ty α} (c : Scal T) {F : Hp} {y : α} : ∀ {vs : List V} {xs : List α}, All2 (T.R F) vs xs → y ∈ xs → ∃ z, vs[xs.idxOf y]? = some z ∧ eqV z (c.of y) = true ∧ ∀ m z', m < xs.idxOf y → vs[m]? = some z' → eqV z' (c.of y) = false
  | [], [], _, h => by cases h
  | v :: vs, x :: xs, h, hm => by
    have ev := c.is F v x h.1
    by_cases e : x = y
    · subst e
      rw [List.idxOf_cons_self]
      exact ⟨v, rfl, by rw [ev, c.eqv]; simp, fun m z' hm _ => by omega⟩
    · have hm' : y ∈ xs := (List.mem_cons.mp hm).resolve_left fun z => e z.symm
      obtain ⟨z, h1, h2, h3⟩ := idx_at c h.2 hm'
      have e0 : (x :: xs).idxOf y = xs.idxOf y + 1 := by rw [List.idxOf_cons, show (x == y) = false by simp [e]]; rfl
      rw [e0]
      refine ⟨z, h1, h2, fun m z' hm hz => ?_⟩
      cases m with
      | zero => cases hz; rw [ev, c.eqv]; simp [e]
      | succ m => exact h3 m z' (by omega) hz
  | [], _ :: _, h, _ => h.elim
  | _ :: _, [], h, _ => h.elim
theorem em_idxL [DecidableEq α] {T : Ty α} (c : Scal T) {fa : S → Res (List α × S)} {fb : S → Res (α × S)} {ap : Pos} (ha : EM XR W X p1 G a (fz (tLst T)) fa) (hb : EM XR W X p2 G b (fz T) fb)
    (mk : ∀ ta tb, PE X a ta → PE X b tb → PE X (.Call (.Attribute a "index" ap) [b] [] pos) (tBM X.K "list" (rIndex X.K) ta (tCons tb tNil))) :
    EM XR W X (p1 && p2) G (.Call (.Attribute a "index" ap) [b] [] pos) (fz tInt) (fun s => (fa s).bind fun r1 => (fb r1.2).bind fun r2 => (mIdx r1.1 r2.1).bind fun z => .ok (z, r2.2)) := by
  obtain ⟨ta, hta, ha⟩ := ha
  obtain ⟨tb, htb, hb⟩ := hb
  refine ⟨_, mk _ _ hta htb, fun s F σ H A Q g k w => ha s F σ H A _ g k (WPE.bind w fun x s1 v F1 H1 B A1 ⟨rB, r1⟩ g1 e1 q1 w => ?_)⟩
  subst rB
  obtain ⟨l, vs, rfl, hl, r⟩ := r1
  refine ⟨.inl ⟨rfl, vs, SqL.of (e1.holds.fz _ _ hl)⟩, hb s1 F1 σ H1 A1 _ g1 e1.holds ?_⟩
  cases q : fb s1 with
  | bad => rw [q] at w; exact w
  | er ex => rw [q] at w; exact fun cls oe F' H' A' h1 h2 => w cls oe F' H' A' h1 (e1.trans h2)
  | ok ys =>
    obtain ⟨y, s2⟩ := ys
    rw [q] at w
    rintro u F2 H2 B A2 ⟨rB, r2⟩ g2 e2 q2
    subst rB
    dsimp only [Res.bind_ok] at w
    unfold mIdx at w
    by_cases hm : y ∈ x
    · rw [if_pos hm] at w
      obtain ⟨z, h1, h2, h3⟩ := idx_at c r hm
      rw [c.is F2 u y r2]
      refine ⟨l, vs, c.of y, x.idxOf y, z, rfl, rfl, SqL.of (e2.holds.fz _ _ (e2.fz _ _ hl)), c.flat y, (inV_of c (x := y) r).2, h1, h2, h3, ?_⟩
      exact w _ F2 H2 [] A2 ⟨rfl, rfl⟩ g2 (e1.trans e2) fun hp => by
        simp only [Bool.and_eq_true] at hp
        exact ⟨(q2 hp.2).1.trans (q1 hp.1).1, (q2 hp.2).2.trans (q1 hp.1).2⟩
    · rw [if_neg hm] at w; exact w.elim
end

/-! ### lists of owned things -/
section
variable {α β : Type}
def AllO (R : Rl β) (F : Hp) : List V → List β → Ow → Prop
  | [], [], A => A = []
  | v :: vs, x :: xs, A => ∃ B C, A = B ++ C ∧ R.P F v x B ∧ AllO R F vs xs C
  | _, _, _ => False
variable {R : Rl β} {F F' H : Hp} {A B : Ow}
theorem AllO.mono (s : Same F F') : ∀ {vs : List V} {xs : List β} {A : Ow}, AllO R F vs xs A → AllO R F' vs xs A
  | [], [], _, h => h
  | _ :: _, _ :: _, _, ⟨B, C, e, h1, h2⟩ => ⟨B, C, e, R.mono h1 s, AllO.mono s h2⟩
  | [], _ :: _, _, h => h.elim
  | _ :: _, [], _, h => h.elim
theorem AllO.length : ∀ {vs : List V} {xs : List β} {A : Ow}, AllO R F vs xs A → vs.length = xs.length
  | [], [], _, _ => rfl
  | _ :: _, _ :: _, _, ⟨_, _, _, _, h⟩ => congrArg (· + 1) (AllO.length h)
  | [], _ :: _, _, h => h.elim
  | _ :: _, [], _, h => h.elim
theorem AllO.app {v : V} {x : β} {B : Ow} (r : R.P F v x B) : ∀ {vs : List V} {xs : List β} {A : Ow}, AllO R F vs xs A → AllO R F (vs ++ [v]) (xs ++ [x]) (A ++ B)
  | [], [], A, h => ⟨B, [], by rw [show A = [] from h, List.append_nil]; rfl, r, rfl⟩
  | _ :: _, _ :: _, _, ⟨C, D, e, h1, h2⟩ => ⟨C, D ++ B, by rw [e, List.append_assoc], h1, AllO.app r h2⟩
  | [], _ :: _, _, h => h.elim
  | _ :: _, [], _, h => h.elim
/-- one item, and what stands for it -/
theorem AllO.at_ {i : Nat} {x : β} : ∀ {vs : List V} {xs : List β} {A : Ow}, AllO R F vs xs A → xs[i]? = some x → ∃ v L B C, vs[i]? = some v ∧ A = L ++ (B ++ C) ∧ R.P F v x B ∧
    ∀ F' y B', Same F F' → R.P F' v y B' → AllO R F' vs (xs.set i y) (L ++ (B' ++ C))
  | [], [], _, _, e => by simp at e
  | v :: vs, x' :: xs, A, ⟨B, C, eA, h1, h2⟩, e => by
    cases i with
    | zero =>
      simp at e
      subst e
      exact ⟨v, [], B, C, rfl, eA, h1, fun F' y B' s h => ⟨B', C, rfl, h, AllO.mono s h2⟩⟩
    | succ i =>
      obtain ⟨u, L, B2, C2, a1, a2, a3, a4⟩ := AllO.at_ (i := i) h2 (by simpa using e)
      refine ⟨u, B ++ L, B2, C2, by simpa using a1, by rw [eA, a2, List.append_assoc], a3, fun F' y B' s h => ?_⟩
      exact ⟨B, L ++ (B' ++ C2), by rw [List.append_assoc], R.mono h1 s, a4 F' y B' s h⟩
  | [], _ :: _, _, h, _ => h.elim
  | _ :: _, [], _, h, _ => h.elim
/-- a list of owned things, owned -/
def oLR (R : Rl β) : Rl (List β) := ⟨fun F v x A => ∃ a vs B, v = .ref a ∧ A = (a, .lst vs) :: B ∧ AllO R F vs x B, fun ⟨a, vs, B, e, q, r⟩ s => ⟨a, vs, B, e, q, AllO.mono s r⟩⟩
/-- all of a relation can be frozen -/
structure Frz (R : Rl β) (T : Ty β) : Prop where
  f : ∀ F H v x A, R.P F v x A → Holds F H A → ∃ F', T.R F' v x ∧ Ext F H A F' H []
theorem frz_fz {T : Ty β} : Frz (fz T) T := ⟨fun F H v x A ⟨e, r⟩ k => ⟨F, r, by rw [e] at k ⊢; exact Ext.refl k⟩⟩
theorem frz_oL {T : Ty β} : Frz (oL T) (tLst T) := ⟨fun F H v x A ⟨a, vs, ev, eA, r⟩ k => by
  subst eA
  have ex : Ext F H [(a, .lst vs)] (upd F a (.lst vs)) H [] := Ext.freeze k
  exact ⟨_, ⟨a, vs, ev, upd_same, T.all r ex.fz⟩, ex⟩⟩
theorem frz_all {T : Ty β} (z : Frz R T) : ∀ {vs : List V} {xs : List β} {A : Ow} {F H : Hp}, AllO R F vs xs A → Holds F H A → ∃ F', All2 (T.R F') vs xs ∧ Ext F H A F' H []
  | [], [], A, F, H, h, k => ⟨F, trivial, by rw [show A = [] from h] at k ⊢; exact Ext.refl k⟩
  | v :: vs, x :: xs, A, F, H, ⟨B, C, e, h1, h2⟩, k => by
    subst e
    obtain ⟨F1, r1, x1⟩ := z.f F H v x B h1 (k.sub (List.sublist_append_left _ _))
    have k1 := Ext.frame k x1
    obtain ⟨F2, r2, x2⟩ := frz_all z (AllO.mono x1.fz h2) k1.holds
    exact ⟨F2, ⟨T.mono r1 x2.fz, r2⟩, k1.trans x2⟩
  | [], _ :: _, _, _, _, h, _ => h.elim
  | _ :: _, [], _, _, _, h, _ => h.elim
theorem frz_oLR {T : Ty β} (z : Frz R T) : Frz (oLR R) (tLst T) := ⟨fun F H v x A ⟨a, vs, B, ev, eA, r⟩ k => by
  subst eA
  have ex : Ext F H ((a, .lst vs) :: B) (upd F a (.lst vs)) H B := Ext.freeze k
  obtain ⟨F2, r2, x2⟩ := frz_all z (AllO.mono ex.fz r) ex.holds
  exact ⟨F2, ⟨a, vs, ev, x2.fz _ _ upd_same, r2⟩, ex.trans x2⟩⟩
theorem SMvI.frz {T : Ty β} (z : Frz R T) : SMvI (sR R) (sR (TC.fz T)) := ⟨fun x F H o A ⟨v, e, r⟩ k => by
  obtain ⟨F', r', ex⟩ := z.f F H v x A r k
  exact ⟨F', [], ⟨v, e, rfl, r'⟩, ex⟩⟩
end
end TC
namespace TC
open PySem PySem.Spec PyProof.Rows L2
section
variable {XR : XRel} {W : WX} {X : Cx} {S S' S2 S3 L L1 L2' ρ : Type} {G : Ctx S} {G' : Ctx S'} {G2 : Ctx S2} {G3 : Ctx S3} {Gl : Ctx L} {G1 : Ctx L1} {Gb : Ctx L2'} {α β γ ι : Type} {e a b c : Expr} {es : List Expr} {st : Stmt} {sts sts' : List Stmt} {pos : Pos} {p p1 p2 p3 : Bool} {Rr : Rl ρ}
/-- one turn of a block, by its mirror -/
def TurnsR (T : Ty ι) (U : Rl β) (G : Ctx S) (vs : List Nat) (g : TG) (tt : TT) (te : TE) (body : ι → S → Res (Option β × S)) : Prop :=
  ∀ x s F σ H A v (Q1 : VK) (Q0 : Hp → Prop), G.P s F σ A → wipe σ vs = σ → Holds F H A → T.R F v x →
    (match body x s with
      | .ok (some y, s') => ∀ w F' H' B A', U.P F' w y B → G.P s' F' σ A' → Ext F H A F' H' (B ++ A') → Q1 w H'
      | .ok (none, s') => ∀ F' H' A', G.P s' F' σ A' → Ext F H A F' H' A' → Q0 H'
      | _ => False) →
    g v σ H fun σ2 H2 => wipe σ2 vs = σ ∧ tt σ2 H2 fun b H3 => if b = true then te σ2 H3 Q1 else Q0 H3
theorem lc_runR {T : Ty ι} {U : Rl β} {vs : List Nat} {g : TG} {tt : TT} {te : TE} {body : ι → S → Res (Option β × S)} (ht : TurnsR T U G vs g tt te body) (wo : WipeOk G vs) {J : It} {F H : Hp} {A : Ow} {σ : St} {s : S} {xs : List ι} {Q : VK} (wk : WalkOk J F T xs) (hg : G.P s F σ A) (hh : Holds F H A)
    (w : match mComp body xs s with
      | .ok (ys, s') => ∀ v F' H' B A', (oLR U).P F' v ys B → G.P s' F' (wipe σ vs) A' → Ext F H A F' H' (B ++ A') → Q v H'
      | _ => False) :
    ∀ D, H D = none → ∃ W : Nat → Nat → Hp → Prop, (∃ m, W 0 m (upd H D (.lst []))) ∧ ∀ i m H, W i m H →
  (J.stop i H ∧ Q (.ref D) H) ∨ (J.go i H ∧ ∃ Nx : Hp → Prop, (∀ H', Nx H' → ∃ m', m' < m ∧ W (i + 1) m' H') ∧ ∀ x H', J.yld i H x H' → g x (wipe σ vs) H' fun σ2 H2 => wipe σ2 vs = wipe σ vs ∧ tt σ2 H2 fun b H3 =>
    if b = true then te σ2 H3 fun y H4 => ∃ acc, H4 D = some (.lst acc) ∧ acc.length < sizeLine ∧ Nx (upd H4 D (.lst (acc ++ [y]))) else Nx H3) := by
  intro D hD
  obtain ⟨vs', r, wk⟩ := wk
  unfold mComp at w
  have hle : xs.length ≤ sizeLine := by
    by_cases z : xs.length ≤ sizeLine
    · exact z
    · rw [if_neg z] at w; exact w.elim
  rw [if_pos hle] at w
  let Pv : Nat → Hp → Prop := fun i H' => ∃ s' ys acc F' C A', G.P s' F' (wipe σ vs) A' ∧ Ext F H A F' H' ((D, .lst acc) :: (C ++ A')) ∧ AllO U F' acc ys C ∧ acc.length ≤ i ∧ (match compL body (xs.drop i) s' with
      | .ok (zs, s2) => ∀ v F' H' B A', (oLR U).P F' v (ys ++ zs) B → G.P s2 F' (wipe σ vs) A' → Ext F H A F' H' (B ++ A') → Q v H'
      | _ => False)
  refine ⟨fun i m H' => m = xs.length - i ∧ i ≤ xs.length ∧ Pv i H', ⟨xs.length, by simp, Nat.zero_le _, s, [], [], F, [], A, wo.w _ _ _ _ hg, Ext.newO hh hD, rfl, Nat.le_refl _, ?_⟩, ?_⟩
  · rw [List.drop_zero]
    cases q : compL body xs s with
    | bad => rw [q] at w; exact w
    | er e => rw [q] at w; exact w
    | ok r => obtain ⟨ys, s2⟩ := r; rw [q] at w; exact w
  rintro i m H' ⟨rfl, hi, s', ys, acc, F', C, A', g', ex, ra, la, w'⟩
  obtain ⟨go, yld, stop⟩ := wk H' (ex.fz.trans ex.holds.fz)
  rw [r.length] at go yld stop
  by_cases hlt : i < xs.length
  · refine .inr ⟨go i hlt, Pv (i + 1), fun H'' p' => ⟨xs.length - (i + 1), by omega, rfl, hlt, p'⟩, fun x H3 hy => ?_⟩
    obtain ⟨e3, hv⟩ := yld i x H3 hy hlt
    subst e3
    obtain ⟨v', hv', rx⟩ := r.getD hlt
    rw [hv] at hv'
    cases hv'
    rw [List.drop_eq_getElem_cons hlt] at w'
    unfold compL at w'
    have hA : Holds F' H3 (A' ++ ((D, .lst acc) :: C)) := ex.holds.perm (List.perm_append_comm (l₁ := (D, HO.lst acc) :: C) (l₂ := A'))
    have frame : ∀ {F4 H4 A4}, Ext F' H3 A' F4 H4 A4 → Ext F H A F4 H4 (((D, .lst acc) :: C) ++ A4) := fun {F4 H4 A4} e4 => by
      have z := (Ext.frame hA e4).permL (List.perm_append_comm (l₁ := A') (l₂ := (D, HO.lst acc) :: C))
      exact ex.trans (z.perm (List.perm_append_comm (l₁ := A4) (l₂ := (D, HO.lst acc) :: C)))
    refine ht xs[i] s' F' (wipe σ vs) H3 A' x (fun y H4 => ∃ acc, H4 D = some (.lst acc) ∧ acc.length < sizeLine ∧ Pv (i + 1) (upd H4 D (.lst (acc ++ [y])))) (Pv (i + 1)) g' (wipe_idem _ _) (hA.sub (List.sublist_append_left _ _)) (T.mono rx ex.fz) ?_
    cases q : body xs[i] s' with
    | bad => rw [q] at w'; exact w'
    | er e => rw [q] at w'; exact w'
    | ok yr =>
      obtain ⟨y, s1⟩ := yr
      rw [q] at w'
      dsimp only at w'
      cases y with
      | none =>
        intro F4 H4 A4 g4 e4
        refine ⟨s1, ys, acc, F4, C, A4, g4, frame e4, AllO.mono e4.fz ra, by omega, ?_⟩
        cases q2 : compL body (xs.drop (i + 1)) s1 with
        | bad => rw [q2] at w'; exact w'
        | er e => rw [q2] at w'; exact w'
        | ok r => rw [q2] at w'; exact w'
      | some y =>
        intro wv F4 H4 B4 A4 ry g4 e4
        have e5 : Ext F H A F4 H4 ((D, .lst acc) :: ((C ++ B4) ++ A4)) := by
          have z := frame e4
          rw [List.cons_append, ← List.append_assoc] at z
          exact z
        have hD4 : H4 D = some (.lst acc) := (e5.holds.ow (D, .lst acc) List.mem_cons_self).2
        refine ⟨acc, hD4, by omega, s1, ys ++ [y], acc ++ [wv], F4, C ++ B4, A4, g4, e5.trans (Ext.write e5.holds), AllO.app ry (AllO.mono e4.fz ra), by simp; omega, ?_⟩
        cases q2 : compL body (xs.drop (i + 1)) s1 with
        | bad => rw [q2] at w'; exact w'
        | er e => rw [q2] at w'; exact w'
        | ok r =>
          rw [q2] at w'
          dsimp only at w' ⊢
          intro v F' H' B A' h1 h2 h3
          refine w' v F' H' B A' ?_ h2 h3
          rwa [List.append_assoc] at h1
  · have ei : i = xs.length := by omega
    subst ei
    rw [List.drop_length] at w'
    refine .inl ⟨stop, ?_⟩
    have w2 : ∀ v F' H' B A', (oLR U).P F' v (ys ++ []) B → G.P s' F' (wipe σ vs) A' → Ext F H A F' H' (B ++ A') → Q v H' := w'
    exact w2 _ F' H' ((D, .lst acc) :: C) A' ⟨D, acc, C, rfl, rfl, by rw [List.append_nil]; exact ra⟩ g' ex
theorem em_lcGR {T : Ty ι} {U : Rl β} {fi : S → Res (List ι × S)} {tgt iter elt : Expr} {ifs : List Expr} {scope : Scope} {own : List (Str × Nat)} {put : S → ι → L1} {back : L1 → S} {ft : L1 → Res (Bool × L1)} {fe : L1 → Res (β × L1)} (hc : X.calm = true) (hN : X.N.Nodup) (hi : IM XR W X G tgt iter T fi)
    (ok : BlkOk X.N X.env.scope scope own) (ko : KeepOk G (own.map (·.2))) (tg : ∀ s H C cl fp, Tgt (Blk X scope s H C cl fp) tgt T G G1 put (own.map (·.2)))
    (tt : ∀ s H C cl fp, ∃ t, PTs (Blk X scope s H C cl fp) ifs t ∧ ∀ s F σ H A Q, G1.P s F σ A → Holds F H A → WPT XR W0 false σ G1 F H A s Q (ft s) → t σ H Q)
    (te : ∀ s H C cl fp, EM XR W0 (Blk X scope s H C cl fp) p G1 elt U fe) (bo : BackOk G1 G back) (hs : ∀ x, foldedSetIterable iter X.env x = pure x) :
    ∃ wi g tt te, PI X tgt iter wi ∧ (∀ s H C cl fp, PG (Blk X scope s H C cl fp) tgt g) ∧ (∀ s H C cl fp, PTs (Blk X scope s H C cl fp) ifs tt) ∧ (∀ s H C cl fp, PE (Blk X scope s H C cl fp) elt te) ∧
      ∀ s F σ H A Q, G.P s F σ A → Holds F H A → WPE XR W false σ (oLR U) G F H A s Q ((fi s).bind fun r => mComp (fun x s => (ft (put s x)).bind fun b => if b.1 then (fe b.2).bind fun q => .ok (some q.1, back q.2) else .ok (none, back b.2)) r.1 r.2) → tLc wi g tt te (own.map (·.2)) σ H Q := by
  obtain ⟨wi, hwi, hi⟩ := hi
  obtain ⟨g, hg, tg⟩ := all_tgt tg
  obtain ⟨t1, ht1, tt⟩ := all_pts tt
  obtain ⟨t2, ht2, te⟩ := all_em te
  refine ⟨wi, g, t1, t2, hwi, hg, ht1, ht2, fun s F σ H A Q gg k w => hi s F σ H A _ gg k ?_⟩
  cases q : fi s with
  | bad => rw [q] at w; exact w
  | er ex => rw [q] at w; exact w
  | ok xs =>
    obtain ⟨xs, s1⟩ := xs
    rw [q] at w
    simp only [Res.bind_ok] at w
    intro J F1 H1 A1 wk g1 e1
    refine lc_runR (U := U) (body := fun x s => (ft (put s x)).bind fun b => if b.1 then (fe b.2).bind fun q => .ok (some q.1, back q.2) else .ok (none, back b.2)) ?_ ko.wipe wk g1 e1.holds ?_
    · intro x s F σ H A v Q1 Q0 g0 hw hh rx w'
      refine tg s F σ H A v x _ g0 hh.fz rx fun σ' A' g2 sb ew => ⟨by rw [ew, hw], ?_⟩
      have h2 := hh.sub sb
      have ex2 : Ext F H A F H A' := (Ext.refl hh).sub sb
      refine tt (put s x) F σ' H A' _ g2 h2 ?_
      dsimp only at w'
      cases q3 : ft (put s x) with
      | bad => rw [q3] at w'; exact w'
      | er ex => rw [q3] at w'; exact w'.elim
      | ok br =>
        obtain ⟨b, l1⟩ := br
        rw [q3] at w'
        simp only [Res.bind_ok] at w'
        intro F3 H3 A3 g3 e3 _
        cases b with
        | false =>
          rw [if_neg Bool.false_ne_true]
          simp only [Bool.false_eq_true, if_false] at w'
          obtain ⟨A4, sb4, g4⟩ := bo.b l1 F3 σ' A3 g3
          exact w' F3 H3 A4 (ko.k _ _ _ _ _ g4 ew) (ex2.trans (e3.sub sb4))
        | true =>
          rw [if_pos rfl]
          simp only [if_true] at w'
          refine te l1 F3 σ' H3 A3 _ g3 e3.holds ?_
          cases q4 : fe l1 with
          | bad => rw [q4] at w'; exact w'
          | er ex => rw [q4] at w'; exact w'.elim
          | ok yr =>
            obtain ⟨y, l2⟩ := yr
            rw [q4] at w'
            rintro u F5 H5 B A5 ru g5 e5 _
            obtain ⟨A6, sb6, g6⟩ := bo.b l2 F5 σ' A5 g5
            exact w' u F5 H5 B A6 ru (ko.k _ _ _ _ _ g6 ew) (ex2.trans (e3.trans (e5.sub (List.Sublist.append (List.Sublist.refl B) sb6))))
    · have nm : ∀ ex, mComp (fun x s => (ft (put s x)).bind fun b => if b.1 = true then (fe b.2).bind fun q => .ok (some q.1, back q.2) else .ok (none, back b.2)) xs s1 ≠ .er ex := fun _ => mComp_ne
      generalize mComp (fun x s => (ft (put s x)).bind fun b => if b.1 = true then (fe b.2).bind fun q => .ok (some q.1, back q.2) else .ok (none, back b.2)) xs s1 = res at w nm ⊢
      cases res with
      | bad => exact w
      | er e => exact absurd rfl (nm e)
      | ok r =>
        obtain ⟨ys, s2⟩ := r
        exact fun v F' H' B A' h1 h2 h3 => w v F' H' B A' h1 (ko.k _ _ _ _ _ h2 (wipe_idem _ _)) (e1.trans h3) (fun z => by cases z)

section
variable {T : Ty ι} {U : Rl β} {fi : S → Res (List ι × S)} {tgt iter elt : Expr} {scope : Scope} {own : List (Str × Nat)} {put : S → ι → L1} {back : L1 → S} {ft : L1 → Res (Bool × L1)} {fe : L1 → Res (β × L1)}
theorem em_lcR (hc : X.calm = true) (hN : X.N.Nodup) (hi : IM XR W X G tgt iter T fi)
    (ok : BlkOk X.N X.env.scope scope own) (ko : KeepOk G (own.map (·.2))) (tg : ∀ s H C cl fp, Tgt (Blk X scope s H C cl fp) tgt T G G1 put (own.map (·.2)))
    (te : ∀ s H C cl fp, EM XR W0 (Blk X scope s H C cl fp) p G1 elt U fe) (bo : BackOk G1 G back) (hs : ∀ x, foldedSetIterable iter X.env x = pure x := by intro _; rfl) :
    EM XR W X false G (.ListComp elt [⟨tgt, iter, [], 0⟩] scope pos) (oLR U) (fun s => (fi s).bind fun r => mComp (fun x s => (fe (put s x)).bind fun q => .ok (some q.1, back q.2)) r.1 r.2) := by
  obtain ⟨wi, g, t1, t2, h1, h2, h3, h4, h⟩ := em_lcGR (ft := fun l => .ok (true, l)) (ifs := []) hc hN hi ok ko tg (fun s H C cl fp => ⟨_, pts_nil, fun s F σ H A Q g k w => w F H A g (Ext.refl k) (fun z => by cases z)⟩) te bo hs
  exact ⟨_, pe_lc hc hN h1 ok h2 h3 h4 hs, h⟩
/-- name = [..] on one line -/
theorem sm_setLcR {sl : Sl α} {i : Nat} {y : Str} {py spos : Pos} {get : S → α} {put' : S → List β → S'} (hc : X.calm = true) (hN : X.N.Nodup) (hy : X.N[i]? = some y) (hyl : X.env.scope.names.lookup y = some .local) (at_ : At G i sl get (sR (oLR U)) G' put')
    (hsw : swapsWith (.ListComp elt [⟨tgt, iter, [], 0⟩] scope pos) (some (.Name y py)) spos.line X.env = pure true) (hi : IM XR W X G tgt iter T fi)
    (ok : BlkOk X.N X.env.scope scope own) (ko : KeepOk G (own.map (·.2))) (tg : ∀ s H C cl fp, Tgt (Blk X scope s H C cl fp) tgt T G G1 put (own.map (·.2)))
    (te : ∀ s H C cl fp, EM XR W0 (Blk X scope s H C cl fp) p G1 elt U fe) (bo : BackOk G1 G back) (hs : ∀ x, foldedSetIterable iter X.env x = pure x := by intro _; rfl) :
    SM XR W X Rr Gb G (.Assign [.Name y py] (.ListComp elt [⟨tgt, iter, [], 0⟩] scope pos) spos) G' (fun s => ((fi s).bind fun r => mComp (fun x s => (fe (put s x)).bind fun q => .ok (some q.1, back q.2)) r.1 r.2).out fun r => .nx (put' r.2 r.1)) := by
  obtain ⟨wi, g, t1, t2, h1, h2, h3, h4, h⟩ := em_lcGR (ft := fun l => .ok (true, l)) (ifs := []) hc hN hi ok ko tg (fun s H C cl fp => ⟨_, pts_nil, fun s F σ H A Q g k w => w F H A g (Ext.refl k) (fun z => by cases z)⟩) te bo hs
  refine ⟨_, ps_setLc hc hN hy hyl hsw h1 ok h2 h3 h4 hs, fun s F σ H A D gg k w => h s F σ H A _ gg k (WPE.bindS (p1 := false) w fun y s1 v F1 H1 B A1 r1 g1 e1 w => ?_)⟩
  obtain ⟨o, L, C, R', q1, q2, _, st⟩ := at_.at_ s1 F1 σ A1 g1
  subst q2
  exact w F1 _ H1 _ (st F1 (some v) y B (Same.refl _) ⟨v, rfl, r1⟩) e1.store
end
/-! ### x[i].append(e) -/
def mAppIx {α : Type} (xs : List (List α)) (i : Int) (y : α) : Res (List (List α)) := match ixN xs.length i with
  | none => .bad
  | some j => match xs[j]? with
    | none => .bad
    | some ys => if ys.length < sizeLine then .ok (xs.set j (ys ++ [y])) else .bad
theorem AllO.atI {R : Rl β} {F : Hp} {vs : List V} {xs : List β} {A : Ow} {i : Int} {j : Nat} (h : AllO R F vs xs A) (e : ixN xs.length i = some j) {v : V} (hv : vs[j]? = some v) : L2.atI vs i = some v := by
  unfold L2.atI
  rw [h.length, e]
  exact hv
theorem mIx_at {xs : List α} {j : Int} {y : α} (h : mIx xs j = .ok y) : ∃ n, ixN xs.length j = some n ∧ xs[n]? = some y := by
  unfold mIx L2.atI at h
  cases q : ixN xs.length j with
  | none => rw [q] at h; cases h
  | some n =>
    rw [q] at h
    cases q2 : xs[n]? with
    | none => simp [q2] at h
    | some z => simp [q2] at h; subst h; exact ⟨n, rfl, q2⟩
theorem WPE.bindSp {L ρ S2 : Type} {R : Rl ρ} {Gb : Ctx L} {G2 : Ctx S2} {R1 : Rl α} {σ : St} {F H : Hp} {A : Ow} {s : S} {D : Ends} {Q1 : VK} {r : Res (α × S)} {k : α × S → Out S2 L ρ} (h : WPS XR W R Gb G2 F H A D (r.out k))
    (hk : ∀ x s' v F' H' B A', R1.P F' v x B → G.P s' F' σ A' → Ext F H A F' H' (B ++ A') → (p1 = true → A' = A ∧ s' = s) → WPS XR W R Gb G2 F H A D (k (x, s')) → Q1 v H') : WPE XR W p1 σ R1 G F H A s Q1 r := by
  cases r with
  | bad => exact h
  | er ex => exact fun cls oe F' H' A' h1 h2 => h cls oe F' H' σ A' h1 h2
  | ok xs =>
    obtain ⟨x, s'⟩ := xs
    exact fun v F' H' B A' h1 h2 h3 h4 => hk x s' v F' H' B A' h1 h2 h3 h4 h
theorem sm_appIx {T : Ty α} {fi : S → Res (Int × S)} {f : S → Res (α × S)} {i : Nat} {x : Str} {pp sp ap cp : Pos} {get : S → List (List α)} {put : S → List (List α) → S} (hN : X.N[i]? = some x) (hv : Vis X.env.scope x) (at_ : At G i (sR (oLR (oL T))) get (sR (oLR (oL T))) G put)
    (hi : EM XR W X p1 G b (fz tInt) fi) (h : EM XR W X true G e (fz T) f)
    (mk : ∀ tn ti te, PE X (.Name x pp) tn → PE X b ti → PE X e te → PE X (.Call (.Attribute (.Subscript (.Name x pp) b sp) "append" ap) [e] [] cp) (tBM X.K "list" rAppend (tOp (rIxL X.K) tn ti) (tCons te tNil)))
    (hs : swapsWith (.Call (.Attribute (.Subscript (.Name x pp) b sp) "append" ap) [e] [] cp) none pos.line X.env = pure false := by rfl)
    (hd : (x == ("__debug__" : Str)) = false := by decide) (hcd : (x == ("__classdict__" : Str)) = false := by decide) :
    SM XR W X Rr Gb G (.Expr (.Call (.Attribute (.Subscript (.Name x pp) b sp) "append" ap) [e] [] cp) pos) G (fun s => (fi s).out fun q => (mIx (get q.2) q.1).out fun _ => (f q.2).out fun r => (mAppIx (get q.2) q.1 r.1).out fun z => .nx (put q.2 z)) := by
  obtain ⟨ti, hti, hi⟩ := hi
  obtain ⟨t, ht, h⟩ := h
  refine ⟨_, ps_expr (mk _ _ _ (pe_var hN hv hd hcd) hti ht) hs, fun s F σ H A D g k w => ?_⟩
  obtain ⟨o, L, B, R', e1, e2, ⟨v0, ev0, a0, vs0, B0, eva0, eB0, r0⟩, _⟩ := at_.at_ s F σ A g
  refine ⟨v0, by rw [e1, ev0], hi s F σ H A _ g k (WPE.bindS (p1 := p1) w fun j s1 u F1 H1 B1 A1 ⟨rB, r1⟩ g1 x1 w => ?_)⟩
  subst rB
  obtain ⟨o', L', B', R2, e1', e2', ⟨v', ev', a, vs, B2, eva, eB', r'⟩, st⟩ := at_.at_ s1 F1 σ A1 g1
  rw [e1, ev0] at e1'
  cases e1'
  cases ev'
  subst eB'
  have hla : H1 a = some (.lst vs) := (x1.holds.ow (a, .lst vs) (by rw [e2']; simp)).2
  dsimp only at w
  cases q3 : mIx (get s1) j with
  | bad => rw [q3] at w; exact w.elim
  | er ex => exact absurd q3 mIx_ne
  | ok ys =>
    rw [q3] at w
    obtain ⟨n, q, q2⟩ := mIx_at q3
    unfold mAppIx at w
    simp only [q, q2, Res.out_ok] at w
    obtain ⟨z, L2', B3, C2, a1, a2, ⟨b2, ws, ez, eB3, rw3⟩, a4⟩ := r'.at_ q2
    subst ez eB3 a2 e2'
    have hlb : H1 b2 = some (.lst ws) := (x1.holds.ow (b2, .lst ws) (by simp)).2
    refine ⟨a, vs, j, .ref b2, eva, r1, SqL.of hla, AllO.atI r' q a1, .inl ⟨rfl, ws, SqL.of hlb⟩, h s1 F1 σ H1 _ _ g1 x1.holds (WPE.bindSp (w.later x1) fun y s2 u F2 H2 B2 A2 ⟨rB, ry⟩ g2 x2 q2 w => ?_)⟩
    subst rB
    obtain ⟨rfl, rfl⟩ := q2 rfl
    by_cases hz : ys.length < sizeLine
    · rw [if_pos hz] at w
      have hlb2 : H2 b2 = some (.lst ws) := (x2.holds.ow (b2, .lst ws) (by simp)).2
      refine ⟨b2, ws, u, rfl, rfl, hlb2, by rw [rw3.length]; exact hz, ?_⟩
      have x2' : Ext F1 H1 (L' ++ ((a, HO.lst vs) :: (L2' ++ ([(b2, HO.lst ws)] ++ C2)) ++ R2)) F2 H2 ((L' ++ ((a, HO.lst vs) :: L2')) ++ ([(b2, .lst ws)] ++ (C2 ++ R2))) := by
        simpa using x2
      have hw : Ext F2 H2 [(b2, .lst ws)] F2 (upd H2 b2 (.lst (ws ++ [u]))) [(b2, .lst (ws ++ [u]))] := Ext.write (x2'.holds.sub ((List.sublist_append_left _ _).trans (List.sublist_append_right _ _)))
      have hr := a4 F2 (ys ++ [y]) [(b2, .lst (ws ++ [u]))] x2.fz ⟨b2, ws ++ [u], rfl, rfl, (T.all rw3 x2.fz).append ⟨ry, trivial⟩⟩
      have gg := st F2 (some (.ref a)) ((get s2).set n (ys ++ [y])) _ x2.fz ⟨.ref a, rfl, a, vs, _, rfl, rfl, hr⟩
      rw [ev0, eva] at e1
      rw [set_same e1] at gg
      refine w F2 σ _ _ gg (x2'.trans ?_)
      have z := Ext.frameMid (L := L' ++ ((a, HO.lst vs) :: L2')) (A := [(b2, .lst ws)]) (R := C2 ++ R2) x2'.holds hw
      simpa using z
    · rw [if_neg hz] at w; exact w.elim
def kAppIx (get : S → List (List α)) (put : S → List (List α) → S) (fi : S → Res (Int × S)) (f : S → Res (α × S)) : S → Out S L ρ := fun s => (fi s).out fun q => (mIx (get q.2) q.1).out fun _ => (f q.2).out fun r => (mAppIx (get q.2) q.1 r.1).out fun z => .nx (put q.2 z)
def kM1 (g : α → Res γ) (f : S → Res (α × S)) : S → Res (γ × S) := fun s => (f s).bind fun r => (g r.1).bind fun z => .ok (z, r.2)
/-- what is owned is frozen -/
theorem em_frz {R : Rl α} {T : Ty α} {f : S → Res (α × S)} (z : Frz R T) (h : EM XR W X p G e R f) : EM XR W X p G e (fz T) f := by
  obtain ⟨t, ht, hh⟩ := h
  refine ⟨t, ht, fun s F σ H A Q g k w => hh s F σ H A Q g k ?_⟩
  cases q : f s with
  | bad => rw [q] at w; exact w
  | er ex => rw [q] at w; exact w
  | ok xs =>
    obtain ⟨x, s'⟩ := xs
    rw [q] at w
    intro v F' H' B A' h1 h2 h3 h4
    obtain ⟨F2, r2, ex2⟩ := z.f F' H' v x B h1 (h3.holds.sub (List.sublist_append_left _ _))
    have ex := Ext.frame h3.holds ex2
    exact w v F2 H' [] A' ⟨rfl, r2⟩ (G.mono h2 ex2.fz) (h3.trans ex) h4
theorem fn_okK {P : Program} {w : World} {K : PySem.W.Frag} {mg : Str → Option Value} {base : Heap} {x qual : Str} {st : Stmt} {f : Addr} {fd : FuncData} {N ps : List Str} {k : Nat} {ι P' S0 S1 : Type} {Z : ι → RA P'} {R : ι → Rl ρ} {G0 : ι → Ctx S0} {G1 : ι → Ctx S1} {init : P' → S0} {fb : S0 → Out S1 Unit ρ} {fall : S1 → Res ρ}
    (F : Fun K x qual st f fd) (S : FnScope N ps (defScope st)) {m n : Nat} (hm : ps.length = m) (hn : N.length - m = n) (start : ∀ i, StartG (Z i) (G0 i) m n init) (hf : ∀ i, FallOk (G1 i) (R i) fall)
    (body : ∀ (i : ι) (cdv : Value) (A : Around) (outer : List Env) (s : Shared) (H : Hp) (E : XK), Room k (A.deeper (envOfC qual (defScope st) s.heap.objs.size f cdv)) →
      SS XR (fun cls d _ H => E cls d H) (cxOf (L2.CX P w) P w K mg base N qual (defScope st) f cdv A outer s H E) (R i) gnil (G0 i) (defBody st) (G1 i) fb) :
    FnOk P w K mg base (L2.CX P w) (k + 1) f fd ps (spF XR Z R (kRun fb init fall)) :=
  fn_ok F S hm hn start hf body
section
variable {ι : Type} {G1 : Ctx S} {T : Ty ι} {U : Ty β} {UR : Rl β} {fi : S → Res (List ι × S)} {tgt iter elt : Expr} {scope : Scope} {own : List (Str × Nat)} {put : S → ι → S} {ft : S → Res (Bool × S)} {fe : S → Res (β × S)}
theorem em_lcK (hc : X.calm = true) (hN : X.N.Nodup) (hi : IM XR W X G tgt iter T fi)
    (ok : BlkOk X.N X.env.scope scope own) (ko : KeepOk G (own.map (·.2))) (tg : ∀ s H C cl fp, Tgt (Blk X scope s H C cl fp) tgt T G G1 put (own.map (·.2)))
    (te : ∀ s H C cl fp, EM XR W0 (Blk X scope s H C cl fp) p G1 elt (fz U) fe) (bo : BackOk G1 G (fun x => x)) (hs : ∀ x, foldedSetIterable iter X.env x = pure x := by intro _; rfl) :
    EM XR W X false G (.ListComp elt [⟨tgt, iter, [], 0⟩] scope pos) (oL U) (kLc fi put fe) :=
  em_lc hc hN hi ok ko tg te bo hs
theorem em_lcKIf {c : Expr} (hc : X.calm = true) (hN : X.N.Nodup) (hi : IM XR W X G tgt iter T fi)
    (ok : BlkOk X.N X.env.scope scope own) (ko : KeepOk G (own.map (·.2))) (tg : ∀ s H C cl fp, Tgt (Blk X scope s H C cl fp) tgt T G G1 put (own.map (·.2)))
    (tt : ∀ s H C cl fp, TM XR W0 (Blk X scope s H C cl fp) p1 G1 c ft)
    (te : ∀ s H C cl fp, EM XR W0 (Blk X scope s H C cl fp) p G1 elt (fz U) fe) (bo : BackOk G1 G (fun x => x)) (hs : ∀ x, foldedSetIterable iter X.env x = pure x := by intro _; rfl) :
    EM XR W X false G (.ListComp elt [⟨tgt, iter, [c], 0⟩] scope pos) (oL U) (kLcIf fi put ft fe) :=
  em_lcIf hc hN hi ok ko tg tt te bo hs
theorem sm_setLcK {sl : Sl α} {i : Nat} {y : Str} {py spos : Pos} {get : S → α} {put' : S → List β → S'} (hc : X.calm = true) (hN : X.N.Nodup) (hy : X.N[i]? = some y) (hyl : X.env.scope.names.lookup y = some .local) (at_ : At G i sl get (sR (oL U)) G' put')
    (hsw : swapsWith (.ListComp elt [⟨tgt, iter, [], 0⟩] scope pos) (some (.Name y py)) spos.line X.env = pure true) (hi : IM XR W X G tgt iter T fi)
    (ok : BlkOk X.N X.env.scope scope own) (ko : KeepOk G (own.map (·.2))) (tg : ∀ s H C cl fp, Tgt (Blk X scope s H C cl fp) tgt T G G1 put (own.map (·.2)))
    (te : ∀ s H C cl fp, EM XR W0 (Blk X scope s H C cl fp) p G1 elt (fz U) fe) (bo : BackOk G1 G (fun x => x)) (hs : ∀ x, foldedSetIterable iter X.env x = pure x := by intro _; rfl) :
    SM XR W X Rr Gb G (.Assign [.Name y py] (.ListComp elt [⟨tgt, iter, [], 0⟩] scope pos) spos) G' (kSet (kLc fi put fe) put') :=
  sm_setLc hc hN hy hyl at_ hsw hi ok ko tg te bo hs
theorem sm_setLcKIf {c : Expr} {sl : Sl α} {i : Nat} {y : Str} {py spos : Pos} {get : S → α} {put' : S → List β → S'} (hc : X.calm = true) (hN : X.N.Nodup) (hy : X.N[i]? = some y) (hyl : X.env.scope.names.lookup y = some .local) (at_ : At G i sl get (sR (oL U)) G' put')
    (hsw : swapsWith (.ListComp elt [⟨tgt, iter, [c], 0⟩] scope pos) (some (.Name y py)) spos.line X.env = pure true) (hi : IM XR W X G tgt iter T fi)
    (ok : BlkOk X.N X.env.scope scope own) (ko : KeepOk G (own.map (·.2))) (tg : ∀ s H C cl fp, Tgt (Blk X scope s H C cl fp) tgt T G G1 put (own.map (·.2)))
    (tt : ∀ s H C cl fp, TM XR W0 (Blk X scope s H C cl fp) p1 G1 c ft)
    (te : ∀ s H C cl fp, EM XR W0 (Blk X scope s H C cl fp) p G1 elt (fz U) fe) (bo : BackOk G1 G (fun x => x)) (hs : ∀ x, foldedSetIterable iter X.env x = pure x := by intro _; rfl) :
    SM XR W X Rr Gb G (.Assign [.Name y py] (.ListComp elt [⟨tgt, iter, [c], 0⟩] scope pos) spos) G' (kSet (kLcIf fi put ft fe) put') :=
  sm_setLcIf hc hN hy hyl at_ hsw hi ok ko tg tt te bo hs
theorem em_lcKR (hc : X.calm = true) (hN : X.N.Nodup) (hi : IM XR W X G tgt iter T fi)
    (ok : BlkOk X.N X.env.scope scope own) (ko : KeepOk G (own.map (·.2))) (tg : ∀ s H C cl fp, Tgt (Blk X scope s H C cl fp) tgt T G G1 put (own.map (·.2)))
    (te : ∀ s H C cl fp, EM XR W0 (Blk X scope s H C cl fp) p G1 elt UR fe) (bo : BackOk G1 G (fun x => x)) (hs : ∀ x, foldedSetIterable iter X.env x = pure x := by intro _; rfl) :
    EM XR W X false G (.ListComp elt [⟨tgt, iter, [], 0⟩] scope pos) (oLR UR) (kLc fi put fe) :=
  em_lcR hc hN hi ok ko tg te bo hs
theorem sm_setLcKR {sl : Sl α} {i : Nat} {y : Str} {py spos : Pos} {get : S → α} {put' : S → List β → S'} (hc : X.calm = true) (hN : X.N.Nodup) (hy : X.N[i]? = some y) (hyl : X.env.scope.names.lookup y = some .local) (at_ : At G i sl get (sR (oLR UR)) G' put')
    (hsw : swapsWith (.ListComp elt [⟨tgt, iter, [], 0⟩] scope pos) (some (.Name y py)) spos.line X.env = pure true) (hi : IM XR W X G tgt iter T fi)
    (ok : BlkOk X.N X.env.scope scope own) (ko : KeepOk G (own.map (·.2))) (tg : ∀ s H C cl fp, Tgt (Blk X scope s H C cl fp) tgt T G G1 put (own.map (·.2)))
    (te : ∀ s H C cl fp, EM XR W0 (Blk X scope s H C cl fp) p G1 elt UR fe) (bo : BackOk G1 G (fun x => x)) (hs : ∀ x, foldedSetIterable iter X.env x = pure x := by intro _; rfl) :
    SM XR W X Rr Gb G (.Assign [.Name y py] (.ListComp elt [⟨tgt, iter, [], 0⟩] scope pos) spos) G' (kSet (kLc fi put fe) put') :=
  sm_setLcR hc hN hy hyl at_ hsw hi ok ko tg te bo hs
end
/-- membership, as a function of its own -/
def mIn [DecidableEq α] (x : α) (xs : List α) : Bool := decide (x ∈ xs)
def mNin [DecidableEq α] (x : α) (xs : List α) : Bool := !decide (x ∈ xs)
theorem cm_inL [DecidableEq α] {T : Ty α} (c : Scal T) : Cmp X .In T (tLst T) mIn := c_inL c
theorem cm_inT [DecidableEq α] {T : Ty α} (c : Scal T) : Cmp X .In T (tTup T) mIn := c_inT c
theorem cm_ninL [DecidableEq α] {T : Ty α} (c : Scal T) : Cmp X .NotIn T (tLst T) mNin := c_ninL c
theorem cm_ninT [DecidableEq α] {T : Ty α} (c : Scal T) : Cmp X .NotIn T (tTup T) mNin := c_ninT c
def mEq [DecidableEq α] (x y : α) : Bool := decide (x = y)
def mNe [DecidableEq α] (x y : α) : Bool := !decide (x = y)
theorem cm_eqS [DecidableEq α] {T : Ty α} (c : Scal T) : Cmp X .Eq T T mEq := c_eqS c
theorem cm_neS [DecidableEq α] {T : Ty α} (c : Scal T) : Cmp X .NotEq T T mNe := c_neS c
theorem cm_eqD [DecidableEq α] {T : Ty α} (c : EqT X.K T) (hu : X.A.units + 64 < cLine) (hd : c.d ≤ 64) : Cmp X .Eq T T mEq := c_eqD c hu hd
theorem cm_neD [DecidableEq α] {T : Ty α} (c : EqT X.K T) (hu : X.A.units + 64 < cLine) (hd : c.d ≤ 64) : Cmp X .NotEq T T mNe := c_neD c hu hd
def mLt (i j : Int) : Bool := decide (i < j)
def mLe (i j : Int) : Bool := decide (i ≤ j)
def mGt (i j : Int) : Bool := decide (j < i)
def mGe (i j : Int) : Bool := decide (j ≤ i)
theorem cm_lt : Cmp X .Lt tInt tInt mLt := c_lt
theorem cm_le : Cmp X .LtE tInt tInt mLe := c_le
theorem cm_gt : Cmp X .Gt tInt tInt mGt := c_gt
theorem cm_ge : Cmp X .GtE tInt tInt mGe := c_ge
end
end TC
namespace TC
open PySem PySem.Spec PyProof.Rows L2
section
variable {S S' S2 L L1 L' ρ α β γ ι P : Type} {E : Ex → Prop} {s : S} {R : ρ → Prop} {B C : L → Prop} {QS : S → Prop}
theorem w_AppIx {get : S → List (List α)} {put : S → List (List α) → S} {fi : S → Res (Int × S)} {f : S → Res (α × S)} : (kAppIx get put fi f s : Out S L ρ).Is E R B C QS = (fi s).Is E fun q => (mIx (get q.2) q.1).Is E fun _ => (f q.2).Is E fun r => (mAppIx (get q.2) q.1 r.1).Is E fun z => QS (put q.2 z) := by
  unfold kAppIx; simp only [Res.is_out, Out.is_nx]
theorem is_mMax {x : Int} {xs : List Int} {Q : Int → Prop} (k : Q (xs.foldl max x)) : (mMax (x :: xs)).Is E Q := by unfold mMax; exact isk k
theorem is_mIdx [DecidableEq α] {xs : List α} {y : α} {Q : Int → Prop} (h : y ∈ xs) (k : Q (xs.idxOf y : Nat)) : (mIdx xs y).Is E Q := by unfold mIdx; rw [if_pos h]; exact isk k
theorem is_mRep {xs : List α} {n : Int} {Q : List α → Prop} (h : -1000000 ≤ n ∧ n ≤ 1000000) (hl : xs.length * n.toNat ≤ 1000000) (k : Q (List.replicate n.toNat xs).flatten) : (mRep xs n).Is E Q := by
  unfold mRep
  rw [if_pos ⟨by omega, by omega, Nat.le_trans hl big_line⟩]
  exact isk k
theorem is_mAppIx {xs : List (List α)} {i : Int} {y : α} {Q : List (List α) → Prop} (ys : List α) (h0 : 0 ≤ i) (h : xs[i.toNat]? = some ys) (hl : ys.length < 1000000) (k : Q (xs.set i.toNat (ys ++ [y]))) : (mAppIx xs i y).Is E Q := by
  have hlt := (List.getElem?_eq_some_iff.mp h).1
  have e : ixN xs.length i = some i.toNat := by unfold ixN; rw [if_pos h0, if_pos (by omega)]
  unfold mAppIx
  simp only [e, h]
  rw [if_pos (Nat.lt_of_lt_of_le hl big_line)]
  exact isk k
theorem mEq_eq [DecidableEq α] (x y : α) : mEq x y = decide (x = y) := by unfold mEq; exact Eq.trans rfl rfl
theorem mNe_eq [DecidableEq α] (x y : α) : mNe x y = !decide (x = y) := by unfold mNe; exact Eq.trans rfl rfl
theorem mLt_eq (x y : Int) : mLt x y = decide (x < y) := by unfold mLt; exact Eq.trans rfl rfl
theorem mLe_eq (x y : Int) : mLe x y = decide (x ≤ y) := by unfold mLe; exact Eq.trans rfl rfl
theorem mGt_eq (x y : Int) : mGt x y = decide (y < x) := by unfold mGt; exact Eq.trans rfl rfl
theorem mGe_eq (x y : Int) : mGe x y = decide (y ≤ x) := by unfold mGe; exact Eq.trans rfl rfl
theorem mIn_eq [DecidableEq α] (x : α) (y : List α) : mIn x y = decide (x ∈ y) := by unfold mIn; exact Eq.trans rfl rfl
theorem mNin_eq [DecidableEq α] (x : α) (y : List α) : mNin x y = !decide (x ∈ y) := by unfold mNin; exact Eq.trans rfl rfl
end
end TC
namespace TC
open PySem PySem.Spec PyProof.Rows L2
section
variable {S S' S2 L ρ : Type} {E : Ex → Prop} {s : S} {R : ρ → Prop} {B C : L → Prop} {Q : S' → Prop} {Q2 : S2 → Prop}
/-- what is left of a block, folded -/
structure Rest (g : S → Out S' L ρ) (E : Ex → Prop) (R : ρ → Prop) (B C : L → Prop) (Q : S' → Prop) (s : S) : Prop where
  h : (g s).Is E R B C Q
theorem rest_eq {g : S → Out S' L ρ} : Rest g E R B C Q s = (g s).Is E R B C Q := propext ⟨fun h => h.h, fun h => ⟨h⟩⟩
theorem w_SeqL {f : S → Out S' L ρ} {g : S' → Out S2 L ρ} : (kSeq f g s).Is E R B C Q2 = (f s).Is E R B C (Rest g E R B C Q2) := by
  rw [w_Seq]
  congr 1
  funext x
  exact rest_eq.symm
end
end TC
/-! casts, alternatives, tuples of any width, slices, tuples joined, x[i] += e -/
namespace TC
open PySem PySem.Spec PyProof.Rows L2
section
variable {XR : XRel} {W : WX} {X : Cx} {S S' S2 L ρ : Type} {G : Ctx S} {G' : Ctx S'} {α β γ ι : Type} {e a b : Expr} {es : List Expr} {pos : Pos} {p p1 p2 p3 : Bool} {Rr : Rl ρ} {Gb : Ctx L}

/-! ### casts -/
theorem em_castM {R : Rl α} {R' : Rl β} {f : S → Res (α × S)} (c : α → Res β) (ne : ∀ x ex, c x ≠ .er ex) (im : ∀ F v x y A, R.P F v x A → c x = .ok y → R'.P F v y A) (h : EM XR W X p G e R f) : EM XR W X p G e R' (kU c f) := by
  obtain ⟨t, ht, hh⟩ := h
  refine ⟨t, ht, fun s F σ H A Q g k w => hh s F σ H A Q g k (WPE.bind w fun x s' v F' H' B A' h1 h2 h3 h4 w => ?_)⟩
  dsimp only at w
  cases q : c x with
  | bad => rw [q] at w; exact w.elim
  | er ex => exact absurd q (ne x ex)
  | ok y => rw [q] at w; exact w v F' H' B A' (im _ _ _ _ _ h1 q) h2 h3 h4
def mSome (o : Option α) : Res α := match o with | some x => .ok x | none => .bad
theorem em_getO {T : Ty α} {f : S → Res (Option α × S)} (h : EM XR W X p G e (fz (tOpt T)) f) : EM XR W X p G e (fz T) (kU mSome f) :=
  em_castM mSome (fun x ex => by cases x <;> (intro z; cases z)) (fun F v x y A r q => by
    cases x with
    | none => cases q
    | some z => cases q; exact ⟨r.1, r.2.2⟩) h
def tAlt (T : Ty α) (U : Ty β) : Ty (α ⊕ β) := ⟨fun F v x => match x with | .inl y => T.R F v y | .inr y => U.R F v y, fun {F F' v x} h s => by
  cases x with
  | inl y => exact T.mono h s
  | inr y => exact U.mono h s⟩
def mInl (o : α ⊕ β) : Res α := match o with | .inl x => .ok x | .inr _ => .bad
def mInr (o : α ⊕ β) : Res β := match o with | .inr x => .ok x | .inl _ => .bad
section
variable {T : Ty α} {U : Ty β}
theorem em_toL {f : S → Res (α × S)} (h : EM XR W X p G e (fz T) f) : EM XR W X p G e (fz (tAlt T U)) (kF Sum.inl f) := em_cast (R := fz T) (R' := fz (tAlt T U)) Sum.inl (fun F v x A r => r) h
theorem em_toR {f : S → Res (β × S)} (h : EM XR W X p G e (fz U) f) : EM XR W X p G e (fz (tAlt T U)) (kF Sum.inr f) := em_cast (R := fz U) (R' := fz (tAlt T U)) Sum.inr (fun F v x A r => r) h
theorem em_getL {f : S → Res ((α ⊕ β) × S)} (h : EM XR W X p G e (fz (tAlt T U)) f) : EM XR W X p G e (fz T) (kU mInl f) :=
  em_castM mInl (fun x ex => by cases x <;> (intro z; cases z)) (fun F v x y A r q => by
    cases x with
    | inl z => cases q; exact r
    | inr z => cases q) h
theorem em_getR {f : S → Res ((α ⊕ β) × S)} (h : EM XR W X p G e (fz (tAlt T U)) f) : EM XR W X p G e (fz U) (kU mInr f) :=
  em_castM mInr (fun x ex => by cases x <;> (intro z; cases z)) (fun F v x y A r q => by
    cases x with
    | inl z => cases q
    | inr z => cases q; exact r) h
def mAlt (g1 : α → γ) (g2 : β → γ) (x : α ⊕ β) : γ := match x with | .inl y => g1 y | .inr y => g2 y
theorem o1_alt {r : V → Hp → VK → Prop} {R : Rl γ} {g1 : α → Res γ} {g2 : β → Res γ} (h1 : Op1 r T g1 R) (h2 : Op1 r U g2 R) : Op1 r (tAlt T U) (mAlt g1 g2) R := fun F H v x Q rv s h nb ne => by
  cases x with
  | inl y => exact h1 F H v y Q rv s h nb ne
  | inr y => exact h2 F H v y Q rv s h nb ne
theorem o1_bad {r : V → Hp → VK → Prop} {R : Rl γ} : Op1 r T (fun _ => (.bad : Res γ)) R := fun F H v x Q rv s h nb ne => absurd rfl nb
/-- x[c], c written, where both ways are tuples -/
theorem em_ixAlt {c : Int} {R : Rl γ} {g1 : α → Res γ} {g2 : β → Res γ} {f : S → Res ((α ⊕ β) × S)} {j : Nat} {pp : Pos} (h1 : Op1 (fun v H Q => rIxT X.K v (.int c) H Q) T g1 R) (h2 : Op1 (fun v H Q => rIxT X.K v (.int c) H Q) U g2 R) (ne1 : ∀ x ex, g1 x ≠ .er ex) (ne2 : ∀ x ex, g2 x ≠ .er ex) (h : EM XR W X p G a (fz (tAlt T U)) f) :
    EM XR W X p G (.Subscript a (.Constant (.int c) j pp) pos) R (kU (mAlt g1 g2) f) :=
  em_op1 (r := fun v H Q => rIxT X.K v (.int c) H Q) (fun _ u => pe_ix ix_tup u pe_int (fun _ _ => rfl)) (o1_alt h1 h2) (fun x ex => by
    cases x with
    | inl y => exact ne1 y ex
    | inr y => exact ne2 y ex) h
end
theorem badne {α : Type} {ex : Ex} : (Res.bad : Res α) ≠ .er ex := by intro h; cases h
section
variable {K : PySem.W.Frag} {T : Ty α} {U : Ty β} {V' : Ty γ}
theorem o2_t0 : Op1 (fun v H Q => rIxT K v (.int 0) H Q) (tP3 T U V') (fun x => .ok x.1) (fz T) := fun F H v x Q ⟨a, v1, v2, v3, ev, q, r1, r2, r3⟩ s h _ _ => ⟨a, _, 0, v1, ev, rfl, SqT.of (s _ _ q), rfl, h _ rfl v1 F H [] ⟨rfl, r1⟩ (Ext.refl (holds_nil s))⟩
theorem o2_t1 : Op1 (fun v H Q => rIxT K v (.int 1) H Q) (tP3 T U V') (fun x => .ok x.2.1) (fz U) := fun F H v x Q ⟨a, v1, v2, v3, ev, q, r1, r2, r3⟩ s h _ _ => ⟨a, _, 1, v2, ev, rfl, SqT.of (s _ _ q), rfl, h _ rfl v2 F H [] ⟨rfl, r2⟩ (Ext.refl (holds_nil s))⟩
theorem o2_t2 : Op1 (fun v H Q => rIxT K v (.int 2) H Q) (tP3 T U V') (fun x => .ok x.2.2) (fz V') := fun F H v x Q ⟨a, v1, v2, v3, ev, q, r1, r2, r3⟩ s h _ _ => ⟨a, _, 2, v3, ev, rfl, SqT.of (s _ _ q), rfl, h _ rfl v3 F H [] ⟨rfl, r3⟩ (Ext.refl (holds_nil s))⟩
end
/-- a triple of one kind as a tuple -/
theorem em_t3T {T : Ty α} {f : S → Res ((α × α × α) × S)} (h : EM XR W X p G e (fz (tP3 T T T)) f) : EM XR W X p G e (fz (tTup T)) (kF (fun x => [x.1, x.2.1, x.2.2]) f) :=
  em_cast (R := fz (tP3 T T T)) (R' := fz (tTup T)) (fun x => [x.1, x.2.1, x.2.2]) (fun F v x A ⟨e, a, v1, v2, v3, ev, q, r1, r2, r3⟩ => ⟨e, a, _, ev, q, r1, r2, r3, trivial⟩) h
theorem em_t2T {T : Ty α} {f : S → Res ((α × α) × S)} (h : EM XR W X p G e (fz (tP2 T T)) f) : EM XR W X p G e (fz (tTup T)) (kF (fun x => [x.1, x.2]) f) :=
  em_cast (R := fz (tP2 T T)) (R' := fz (tTup T)) (fun x => [x.1, x.2]) (fun F v x A ⟨e, a, v1, v2, ev, q, r1, r2⟩ => ⟨e, a, _, ev, q, r1, r2, trivial⟩) h

/-! ### tuples of any width -/
structure HTy (P : Type) where
  R : Hp → List V → P → Prop
  mono : ∀ {F F' vs x}, R F vs x → Same F F' → R F' vs x
  n : Nat
  len : ∀ {F vs x}, R F vs x → vs.length = n
def hnil : HTy Unit := ⟨fun _ vs _ => vs = [], fun h _ => h, 0, fun h => by rw [h]; rfl⟩
def hcons {α P : Type} (T : Ty α) (Z : HTy P) : HTy (α × P) := ⟨fun F vs x => ∃ v r, vs = v :: r ∧ T.R F v x.1 ∧ Z.R F r x.2, fun ⟨v, r, e, h1, h2⟩ s => ⟨v, r, e, T.mono h1 s, Z.mono h2 s⟩, Z.n + 1, fun ⟨v, r, e, h1, h2⟩ => by rw [e, List.length_cons, Z.len h2]⟩
def tH {P : Type} (Z : HTy P) : Ty P := ⟨fun F v x => ∃ a vs, v = .ref a ∧ F a = some (.tup vs) ∧ Z.R F vs x, fun ⟨a, vs, e, q, r⟩ s => ⟨a, vs, e, s _ _ q, Z.mono r s⟩⟩
/-- place i -/
structure HAt {P : Type} (Z : HTy P) (i : Nat) (T : Ty α) (proj : P → α) : Prop where
  at_ : ∀ F vs x, Z.R F vs x → ∃ v, vs[i]? = some v ∧ T.R F v (proj x)
theorem hat_z {P : Type} {T : Ty α} {Z : HTy P} : HAt (hcons T Z) 0 T (fun x => x.1) := ⟨fun F vs x ⟨v, r, e, h1, h2⟩ => ⟨v, by rw [e]; rfl, h1⟩⟩
theorem hat_s {P : Type} {T : Ty α} {U : Ty β} {Z : HTy P} {i : Nat} {proj : P → α} (h : HAt Z i T proj) : HAt (hcons U Z) (i + 1) T (fun x => proj x.2) := ⟨fun F vs x ⟨v, r, e, h1, h2⟩ => by
  obtain ⟨w, q1, q2⟩ := h.at_ F r x.2 h2
  exact ⟨w, by rw [e]; exact q1, q2⟩⟩
theorem o1_hat {K : PySem.W.Frag} {P : Type} {Z : HTy P} {i : Nat} {T : Ty α} {proj : P → α} (h : HAt Z i T proj) : Op1 (fun v H Q => rIxT K v (.int (i : Int)) H Q) (tH Z) (fun x => .ok (proj x)) (fz T) := fun F H v x Q ⟨a, vs, ev, q, r⟩ s hh _ _ => by
  obtain ⟨w, q1, q2⟩ := h.at_ F vs x r
  exact ⟨a, vs, i, w, ev, rfl, SqT.of (s _ _ q), atI_nat q1, hh _ rfl w F H [] ⟨rfl, q2⟩ (Ext.refl (holds_nil s))⟩
theorem em_hix {P : Type} {Z : HTy P} {i : Nat} {T : Ty α} {proj : P → α} {f : S → Res (P × S)} {c : Int} {j : Nat} {pp : Pos} (h : HAt Z i T proj) (hc : c = (i : Int)) (ha : EM XR W X p G a (fz (tH Z)) f) : EM XR W X p G (.Subscript a (.Constant (.int c) j pp) pos) (fz T) (kF proj f) := by
  subst hc
  exact em_op1 (r := fun v H Q => rIxT X.K v (.int (i : Int)) H Q) (fun _ u => pe_ix ix_tup u pe_int (fun _ _ => rfl)) (o1_hat h) (fun _ _ => okne) ha
/-- .. written -/
def aH {P : Type} (Z : HTy P) : RA P := ⟨fun F vs x A => A = [] ∧ Z.R F vs x, fun h s => ⟨h.1, Z.mono h.2 s⟩⟩
theorem am_Hnil : AM XR W X true G [] (aH hnil) kU0 := ⟨_, pa_nil, fun s F σ H A Q g k h => h _ F H [] A ⟨rfl, rfl⟩ g (Ext.refl k) fun _ => ⟨rfl, rfl⟩⟩
theorem am_Hcons {P : Type} {T : Ty α} {Z : HTy P} {f : S → Res (α × S)} {g : S → Res (P × S)} (ha : EM XR W X p1 G e (fz T) f) (hz : AM XR W X p2 G es (aH Z) g) (hs : starEach (e :: es) X.env = (false, eval e X.env) :: starEach es X.env := by rfl) :
    AM XR W X (p1 && p2) G (e :: es) (aH (hcons T Z)) (kPair f g) := by
  obtain ⟨t, ht, ha⟩ := ha
  obtain ⟨u, hu, hz⟩ := hz
  refine ⟨_, pa_cons ht hu hs, fun s F σ H A Q gg k w => ha s F σ H A _ gg k (WPE.bindA w fun x s1 v F1 H1 B A1 ⟨rB, r1⟩ g1 e1 q1 w => ?_)⟩
  subst rB
  refine hz s1 F1 σ H1 A1 _ g1 e1.holds ?_
  cases q : g s1 with
  | bad => rw [q] at w; exact w
  | er ex => rw [q] at w; exact fun cls oe F' H' A' h1 h2 => w cls oe F' H' A' h1 (e1.trans h2)
  | ok ys =>
    obtain ⟨y, s2⟩ := ys
    rw [q] at w
    rintro vs F2 H2 B2 A2 ⟨rB, r2⟩ g2 e2 q2
    subst rB
    exact w (v :: vs) F2 H2 [] A2 ⟨rfl, v, vs, rfl, T.mono r1 e2.fz, r2⟩ g2 (e1.trans e2) fun hp => by
      simp only [Bool.and_eq_true] at hp
      exact ⟨(q2 hp.2).1.trans (q1 hp.1).1, (q2 hp.2).2.trans (q1 hp.1).2⟩
theorem em_tupH {P : Type} {Z : HTy P} {f : S → Res (P × S)} {k' : Nat} (h : AM XR W X p G es (aH Z) f) (hz : Z.n ≤ 1000 := by decide) : EM XR W X p G (.Tuple es k' pos) (fz (tH Z)) f := by
  obtain ⟨t, ht, h⟩ := h
  refine ⟨_, pe_tup ht, fun s F σ H A Q g k w => h s F σ H A _ g k ?_⟩
  cases q : f s with
  | bad => rw [q] at w; exact w
  | er ex => rw [q] at w; exact w
  | ok xs =>
    obtain ⟨x, s1⟩ := xs
    rw [q] at w
    rintro vs F1 H1 B A1 ⟨rB, r1⟩ g1 e1 q1
    subst rB
    refine ⟨by rw [Z.len r1]; exact Nat.le_trans hz (Nat.le_trans (by decide) big_line), fun l n => ?_⟩
    have ex : Ext F1 H1 A1 (upd F1 l (.tup vs)) (upd H1 l (.tup vs)) A1 := Ext.newF e1.holds n
    exact w _ _ _ [] A1 ⟨rfl, l, vs, rfl, upd_same, Z.mono r1 ex.fz⟩ (G.mono g1 ex.fz) (e1.trans ex) q1
/-- .. unpacked -/
def Tgts (X : Cx) {P L L1 : Type} (tgs : List Expr) (Z : HTy P) (Gl : Ctx L) (G1 : Ctx L1) (put : L → P → L1) (vs : List Nat) : Prop :=
  ∃ g, PGs X tgs g ∧ ∀ l F σ H A us x Q, Gl.P l F σ A → Same F H → Z.R F us x → (∀ σ' A', G1.P (put l x) F σ' A' → A'.Sublist A → wipe σ' vs = wipe σ vs → Q σ' H) → g us σ H Q
section
variable {L L1 L2' P : Type} {Gl : Ctx L} {G1 : Ctx L1} {G2 : Ctx L2'} {tg : Expr} {tgs : List Expr}
@[irreducible] def pN : L → Unit → L := fun l _ => l
theorem pN_eq (l : L) (x : Unit) : pN l x = l := by unfold pN; rfl
theorem tgs_nil : Tgts X [] hnil Gl Gl pN [] := by
  unfold pN
  exact ⟨_, pgs_nil, fun l F σ H A us x Q g s r h => ⟨r, h σ A g (List.Sublist.refl _) rfl⟩⟩
theorem wipe_app {σ σ' : St} {vs us : List Nat} (h : wipe σ vs = wipe σ' vs) : wipe σ (vs ++ us) = wipe σ' (vs ++ us) := by
  have hl : σ.length = σ'.length := by
    have := congrArg List.length h
    rwa [wipe_length, wipe_length] at this
  refine wipe_eq hl fun k hk => ?_
  rw [List.mem_append, not_or] at hk
  have := congrArg (fun z => z[k]?) h
  simp only [wipe_get, if_neg hk.1] at this
  exact this
theorem wipe_appR {σ σ' : St} {vs us : List Nat} (h : wipe σ us = wipe σ' us) : wipe σ (vs ++ us) = wipe σ' (vs ++ us) := by
  have hl : σ.length = σ'.length := by
    have := congrArg List.length h
    rwa [wipe_length, wipe_length] at this
  refine wipe_eq hl fun k hk => ?_
  rw [List.mem_append, not_or] at hk
  have := congrArg (fun z => z[k]?) h
  simp only [wipe_get, if_neg hk.2] at this
  exact this
theorem tgs_cons {T : Ty ι} {Z : HTy P} {put : L → ι → L1} {put' : L1 → P → L2'} {vs us : List Nat} (h1 : Tgt X tg T Gl G1 put vs) (h2 : Tgts X tgs Z G1 G2 put' us)
    (hs : (assignEach (tg :: tgs) X.env).map (·.2) = assign tg X.env :: (assignEach tgs X.env).map (·.2) := by rfl) : Tgts X (tg :: tgs) (hcons T Z) Gl G2 (pP put put') (vs ++ us) := by
  obtain ⟨g, hg, h1⟩ := h1
  obtain ⟨gs, hgs, h2⟩ := h2
  unfold pP
  refine ⟨_, pgs_cons hg hgs hs, fun l F σ H A ws x Q gl s ⟨v, r, e, r1, r2⟩ h => ⟨v, r, e, h1 l F σ H A v x.1 _ gl s r1 fun σ1 A1 g1 b1 w1 => h2 _ F σ1 H A1 r x.2 _ g1 s r2 fun σ2 A2 g2 b2 w2 => ?_⟩⟩
  exact h σ2 A2 g2 (b2.trans b1) ((wipe_appR w2).trans (wipe_app w1))
theorem tgt_H {Z : HTy P} {put : L → P → L1} {vs : List Nat} {k' n : Nat} (hc : X.calm = true) (h : Tgts X tgs Z Gl G1 put vs) (hZ : Z.n = n) (mk : ∀ g, PGs X tgs g → PG X (.Tuple tgs k' pos) (gTup X.K n g)) : Tgt X (.Tuple tgs k' pos) (tH Z) Gl G1 put vs := by
  obtain ⟨g, hg, h⟩ := h
  exact ⟨_, mk g hg, fun l F σ H A v x Q gl s ⟨a, us, ev, q, r⟩ hq => ⟨a, us, ev, SqT.of (s _ _ q), (Z.len r).trans hZ, h l F σ H A us x Q gl s r hq⟩⟩
/-- the same target for another view of what is stored -/
@[irreducible] def pC (put : L → ι → L1) (c : β → ι) : L → β → L1 := fun l y => put l (c y)
theorem pC_eq (put : L → ι → L1) (c : β → ι) (l : L) (y : β) : pC put c l y = put l (c y) := by unfold pC; rfl
theorem Tgt.conv {T : Ty ι} {T' : Ty β} {put : L → ι → L1} {vs : List Nat} (c : β → ι) (im : ∀ F v y, T'.R F v y → T.R F v (c y)) (h : Tgt X tg T Gl G1 put vs) : Tgt X tg T' Gl G1 (pC put c) vs := by
  obtain ⟨g, hg, h⟩ := h
  unfold pC
  exact ⟨g, hg, fun l F σ H A v x Q gl s r hq => h l F σ H A v (c x) Q gl s (im _ _ _ r) hq⟩
def c3 (x : α × β × γ) : α × β × γ × Unit := (x.1, x.2.1, x.2.2, ())
def c2 (x : α × β) : α × β × Unit := (x.1, x.2, ())
theorem c3_eq (x : α) (y : β) (z : γ) : c3 (x, y, z) = (x, y, z, ()) := rfl
theorem c2_eq (x : α) (y : β) : c2 (x, y) = (x, y, ()) := rfl
theorem tgt_3 {T : Ty α} {U : Ty β} {V' : Ty γ} {put : L → α × β × γ × Unit → L1} {vs : List Nat} (h : Tgt X tg (tH (hcons T (hcons U (hcons V' hnil)))) Gl G1 put vs) : Tgt X tg (tP3 T U V') Gl G1 (pC put c3) vs :=
  Tgt.conv (T := tH (hcons T (hcons U (hcons V' hnil)))) (T' := tP3 T U V') c3 (fun F v y ⟨a, v1, v2, v3, e, q, r1, r2, r3⟩ => ⟨a, _, e, q, v1, _, rfl, r1, v2, _, rfl, r2, v3, [], rfl, r3, rfl⟩) h
theorem tgt_2 {T : Ty α} {U : Ty β} {put : L → α × β × Unit → L1} {vs : List Nat} (h : Tgt X tg (tH (hcons T (hcons U hnil))) Gl G1 put vs) : Tgt X tg (tP2 T U) Gl G1 (pC put c2) vs :=
  Tgt.conv (T := tH (hcons T (hcons U hnil))) (T' := tP2 T U) c2 (fun F v y ⟨a, v1, v2, e, q, r1, r2⟩ => ⟨a, _, e, q, v1, _, rfl, r1, v2, [], rfl, r2, rfl⟩) h
end

/-! ### slices -/
def mCut (xs : List α) (lo hi : Option Int) : List α := (xs.drop (HT.sIx xs.length 0 lo)).take (HT.sIx xs.length xs.length hi - HT.sIx xs.length 0 lo)
theorem All2.cut {R : V → α → Prop} {vs : List V} {xs : List α} (h : All2 R vs xs) (lo hi : Option Int) : All2 R (cutV vs lo hi) (mCut xs lo hi) := by
  unfold cutV mCut
  rw [h.length]
  exact All2.take _ (All2.drop _ h)
theorem cut_whole {xs : List α} {lo hi : Option Int} (h : HT.sIx xs.length 0 lo = 0 ∧ HT.sIx xs.length xs.length hi = xs.length) : mCut xs lo hi = xs := by
  unfold mCut
  rw [h.1, h.2]
  simp
/-- a part of a slice -/
def OM (XR : XRel) (W : WX) (X : Cx) {S : Type} (p : Bool) (G : Ctx S) (o : Option Expr) (f : S → Res (Option Int × S)) : Prop :=
  ∃ t, PO X o t ∧ ∀ s F σ H A (Q : Option Int → Hp → Prop), G.P s F σ A → Holds F H A → (match f s with
    | .ok (x, s') => ∀ F' H' A', G.P s' F' σ A' → Ext F H A F' H' A' → (p = true → A' = A ∧ s' = s) → Q x H'
    | .er ex => ∀ cls oe F' H' A', XR ex cls oe H' → Ext F H A F' H' A' → W cls oe σ H'
    | .bad => False) → t σ H Q
theorem om_none : OM XR W X true G none (kC none) := ⟨_, po_none, fun s F σ H A Q g k w => w F H A g (Ext.refl k) fun _ => ⟨rfl, rfl⟩⟩
theorem om_some {f : S → Res (Int × S)} (h : EM XR W X p G e (fz tInt) f) : OM XR W X p G (some e) (kF some f) := by
  obtain ⟨t, ht, h⟩ := h
  refine ⟨_, po_some ht, fun s F σ H A Q g k w => h s F σ H A _ g k ?_⟩
  unfold kF at w
  cases q : f s with
  | bad => rw [q] at w; exact w
  | er ex => rw [q] at w; exact w
  | ok xs =>
    obtain ⟨x, s1⟩ := xs
    rw [q] at w
    rintro v F1 H1 B A1 ⟨rB, r1⟩ g1 e1 q1
    subst rB
    exact ⟨x, r1, w F1 H1 A1 g1 e1 q1⟩
def kCut (f : S → Res (List α × S)) (lo hi : S → Res (Option Int × S)) : S → Res (List α × S) := fun s => (f s).bind fun r => (lo r.2).bind fun l => (hi l.2).bind fun h => .ok (mCut r.1 l.1 h.1, h.2)
theorem em_slice {r : V → Option Int → Option Int → Hp → VK → Prop} {T : Ty (List α)} {R : Rl (List α)} {f : S → Res (List α × S)} {flo fhi : S → Res (Option Int × S)} {lo hi : Option Expr} {pp : Pos} (hr : SlR X r)
    (ho : ∀ F H v x l h (Q : VK), T.R F v x → Same F H → (∀ w F' H' B, R.P F' w (mCut x l h) B → Ext F H [] F' H' B → Q w H') → r v l h H Q)
    (ha : EM XR W X p1 G a (fz T) f) (hlo : OM XR W X p2 G lo flo) (hhi : OM XR W X p3 G hi fhi) : EM XR W X (p1 && (p2 && p3)) G (.Subscript a (.Slice lo hi none pp) pos) R (kCut f flo fhi) := by
  obtain ⟨t, ht, ha⟩ := ha
  obtain ⟨tl, htl, hl⟩ := hlo
  obtain ⟨th, hth, hh⟩ := hhi
  refine ⟨_, pe_slice hr ht htl hth, fun s F σ H A Q g k w => ha s F σ H A _ g k (WPE.bind w fun x s1 v F1 H1 B A1 ⟨rB, r1⟩ g1 e1 q1 w => ?_)⟩
  subst rB
  refine hl s1 F1 σ H1 A1 _ g1 e1.holds ?_
  dsimp only at w
  cases q : flo s1 with
  | bad => rw [q] at w; exact w
  | er ex => rw [q] at w; exact fun cls oe F' H' A' h1 h2 => w cls oe F' H' A' h1 (e1.trans h2)
  | ok ys =>
    obtain ⟨y, s2⟩ := ys
    rw [q] at w
    intro F2 H2 A2 g2 e2 q2
    refine hh s2 F2 σ H2 A2 _ g2 e2.holds ?_
    simp only [Res.bind_ok] at w
    cases q' : fhi s2 with
    | bad => rw [q'] at w; exact w
    | er ex => rw [q'] at w; exact fun cls oe F' H' A' h1 h2 => w cls oe F' H' A' h1 ((e1.trans e2).trans h2)
    | ok zs =>
      obtain ⟨z, s3⟩ := zs
      rw [q'] at w
      intro F3 H3 A3 g3 e3 q3
      refine ho F3 H3 v x y z Q (T.mono r1 (e2.fz.trans e3.fz)) e3.holds.fz fun w' F' H' B hr ex => ?_
      have e4 := (e1.trans e2).trans e3
      exact w w' F' H' B A3 hr (G.mono g3 ex.fz) (e4.trans (ext_nil e3.holds ex)) fun hp => by
        simp only [Bool.and_eq_true] at hp
        exact ⟨(q3 hp.2.2).1.trans ((q2 hp.2.1).1.trans (q1 hp.1).1), (q3 hp.2.2).2.trans ((q2 hp.2.1).2.trans (q1 hp.1).2)⟩
section
variable {T : Ty α} {f : S → Res (List α × S)} {flo fhi : S → Res (Option Int × S)} {lo hi : Option Expr} {pp : Pos}
theorem em_cutL (ha : EM XR W X p1 G a (fz (tLst T)) f) (hlo : OM XR W X p2 G lo flo) (hhi : OM XR W X p3 G hi fhi) : EM XR W X (p1 && (p2 && p3)) G (.Subscript a (.Slice lo hi none pp) pos) (oL T) (kCut f flo fhi) :=
  em_slice (T := tLst T) sl_list (fun F H v x l h Q ⟨a, vs, ev, q, r⟩ s hq => ⟨a, vs, ev, SqL.of (s _ _ q), fun p n => lay_list (r.cut l h) s n hq⟩) ha hlo hhi
theorem em_cutT (ha : EM XR W X p1 G a (fz (tTup T)) f) (hlo : OM XR W X p2 G lo flo) (hhi : OM XR W X p3 G hi fhi) : EM XR W X (p1 && (p2 && p3)) G (.Subscript a (.Slice lo hi none pp) pos) (fz (tTup T)) (kCut f flo fhi) :=
  em_slice (T := tTup T) sl_tupA (fun F H v x l h Q ⟨a, vs, ev, q, r⟩ s hq => ⟨a, vs, ev, SqT.of (s _ _ q), fun hw => by
    rw [r.length] at hw
    have e := cut_whole hw
    rw [e] at hq
    exact hq _ F H [] ⟨rfl, a, vs, rfl, q, r⟩ (Ext.refl (holds_nil s)), fun _ p n => lay_tup (r.cut l h) s n hq⟩) ha hlo hhi
end

/-! ### tuples joined -/
theorem em_catT {T : Ty α} {fa fb : S → Res (List α × S)} (ha : EM XR W X p1 G a (fz (tTup T)) fa) (hb : EM XR W X p2 G b (fz (tTup T)) fb) : EM XR W X (p1 && p2) G (.BinOp a .Add b pos) (fz (tTup T)) (kB mCat fa fb) :=
  em_op2 (T1 := tTup T) (T2 := tTup T) (g := mCat) (fun _ _ => pe_op op_catA) (fun F H v u x y Q ⟨a, vs, ev, q, r⟩ ⟨b, us, eu, q', r'⟩ s h nb _ => by
    unfold mCat at h nb
    by_cases hz : x.length + y.length ≤ sizeLine
    · rw [if_pos hz] at h
      refine ⟨a, b, vs, us, ev, eu, SqT.of (s _ _ q), SqT.of (s _ _ q'), by rw [r.length, r'.length]; exact hz, fun hx => ?_, fun _ hy => ?_, fun _ _ p n => lay_tup (r.append r') s n (h _ rfl)⟩
      · subst hx
        have hx : x = [] := List.eq_nil_of_length_eq_zero (r.length.symm)
        subst hx
        exact h _ rfl _ F H [] ⟨rfl, b, us, rfl, q', r'⟩ (Ext.refl (holds_nil s))
      · subst hy
        have hy : y = [] := List.eq_nil_of_length_eq_zero (r'.length.symm)
        subst hy
        exact h _ rfl _ F H [] ⟨rfl, a, vs, rfl, q, by rw [List.append_nil]; exact r⟩ (Ext.refl (holds_nil s))
    · rw [if_neg hz] at nb; exact absurd rfl nb) (fun x y ex => by unfold mCat; exact ifne) ha hb

/-! ### xs[i] += e -/
theorem pget_list : PGet X (rIxL X.K) := by
  intro pins s σ H o i ov iv Q I ro ri h
  obtain ⟨p, xs, n, z, rfl, rfl, hq, he, hQ⟩ := h
  cases ro
  obtain ⟨tk, rfl⟩ := ri
  obtain ⟨us, rr, pl, hsz⟩ := I.list hq
  obtain ⟨j, e1, e2, e3, e4, e5⟩ := atI_get he
  obtain ⟨u, eu, ru⟩ := rr.get e2
  have hl := rr.length
  have hb := line63
  by_cases hn : 0 ≤ n
  · have ej : n.toNat = j := by
      have := e1
      rw [seqIndex_of hn e5] at this
      injection this
    exact wpAny_getItem_list pl.isList hn (by omega) (by rw [ej]; simpa using eu) ⟨z, H, I, ru, hQ⟩
  · have ej : (n + (us.toArray.size : Int)).toNat = j := by
      have := e1
      rw [seqIndex_neg (by omega) e4] at this
      rw [List.size_toArray, ← hl]
      injection this
    exact wpAny_getItem_list_neg pl.isList (by omega) (by rw [List.size_toArray]; omega) (by omega) (by rw [ej]; simpa using eu) ⟨z, H, I, ru, hQ⟩
def kAugIx (get : S → List Int) (put : S → List Int → S) (op : Int → Int → Int) (fi f : S → Res (Int × S)) : S → Out S L ρ := fun s => (fi s).out fun q => (mIx (get q.2) q.1).out fun x => (f q.2).out fun r => (mSet (get r.2) q.1 (op x r.1)).out fun z => .nx (put r.2 z)
theorem sm_augIx {op : Operator} {g : Int → Int → Int} {f fi : S → Res (Int × S)} {i : Nat} {x : Str} {pp sp : Pos} {get : S → List Int} {put : S → List Int → S} {sl : Sl (List Int)} [os : OL tInt sl] (hop : PIp X op (ipI g)) (hN : X.N[i]? = some x) (hv : Vis X.env.scope x) (at_ : At G i sl get sl G put) (h : EM XR W X p1 G e (fz tInt) f) (hi : EM XR W X p2 G b (fz tInt) fi)
    (mk : ∀ te tn ti, PE X e te → PE X (.Name x pp) tn → PE X b ti → PS X (.AugAssign (.Subscript (.Name x pp) b sp) op e pos) (tAugS tn ti te (rIxL X.K) (ipI g) rSetL))
    (hd : (x == ("__debug__" : Str)) = false := by decide) (hcd : (x == ("__classdict__" : Str)) = false := by decide) :
    SM XR W X Rr Gb G (.AugAssign (.Subscript (.Name x pp) b sp) op e pos) G (kAugIx get put g fi f) := by
  obtain ⟨t, ht, h⟩ := h
  obtain ⟨u, hu, hi⟩ := hi
  refine ⟨_, mk _ _ _ ht (pe_var hN hv hd hcd) hu, fun s F σ H A D gg k w => ?_⟩
  obtain ⟨o, L0, B0, R0, e0, _, hsl0, _⟩ := at_.at_ s F σ A gg
  obtain ⟨a, vs0, rfl, _, _, _⟩ := os.opn hsl0
  refine ⟨.ref a, e0, hi s F σ H A _ gg k (WPE.bindS (p1 := p2) w fun n s1 v1 F1 H1 B1 A1 ⟨rB, r1⟩ g1 x1 w => ?_)⟩
  subst rB
  obtain ⟨o, L1, B1, R1, e1, q1, hsl1, _⟩ := at_.at_ s1 F1 σ A1 g1
  obtain ⟨a', vs1, rfl, b1, rr1, _⟩ := os.opn hsl1
  rw [e0] at e1
  cases e1
  subst b1
  have hl1 : H1 a = some (.lst vs1) := (x1.holds.ow (a, .lst vs1) (by rw [q1]; simp)).2
  dsimp only at w
  unfold mIx at w
  cases qi : atI (get s1) n with
  | none => rw [qi] at w; exact w.elim
  | some y =>
    rw [qi] at w
    obtain ⟨vy, hy, ry⟩ := rr1.atI qi
    have hvy : vy = .int y := ry
    refine ⟨a, vs1, n, vy, rfl, r1, SqL.of hl1, hy, h s1 F1 σ H1 A1 _ g1 x1.holds (WPE.bindS (p1 := p1) (w.later x1) fun m s2 v2 F2 H2 B2 A2 ⟨rB, r2⟩ g2 x2 w => ?_)⟩
    subst rB
    obtain ⟨o, L2, B2, R2, e2, q2, hsl2, st⟩ := at_.at_ s2 F2 σ A2 g2
    obtain ⟨a', vs2, rfl, b2, rr2, cl⟩ := os.opn hsl2
    rw [e0] at e2
    cases e2
    subst b2 q2
    have hl2 : H2 a = some (.lst vs2) := (x2.holds.ow (a, .lst vs2) (by simp)).2
    refine ⟨y, m, hvy, r2, ?_⟩
    dsimp only at w
    unfold mSet at w
    cases qs : ixN (get s2).length n with
    | none => rw [qs] at w; exact w.elim
    | some j =>
      rw [qs] at w
      refine ⟨a, vs2, n, j, rfl, r1, hl2, by rw [rr2.length]; exact qs, ?_⟩
      have hw : Ext F2 H2 [(a, .lst vs2)] F2 (upd H2 a (.lst (vs2.set j (.int (g y m))))) [(a, .lst (vs2.set j (.int (g y m))))] := Ext.write (x2.holds.sub ((List.sublist_append_left _ _).trans (List.sublist_append_right _ _)))
      have gg' := st F2 (some (.ref a)) ((get s2).set j (g y m)) [(a, .lst (vs2.set j (.int (g y m))))] (Same.refl _) (cl F2 _ _ (rr2.set (show tInt.R F2 (.int (g y m)) (g y m) from rfl) j))
      rw [set_same e0] at gg'
      exact w F2 σ _ _ gg' (x2.trans (Ext.frameMid (L := L2) (A := [(a, .lst vs2)]) (R := R2) x2.holds hw))
end
end TC
/-! exceptions of own classes, raised and caught; statements never reached; the number of different ints -/
namespace TC
open PySem PySem.Spec PyProof.Rows L2

/-! ### how an exception lies -/
def exFld (c : String) : Str := if c = "ProtocolSyntaxError" then "line" else "position"
def XRm (mg : Str → Option Value) : XRel := fun ex cls oe H => ∃ C, mg (Str.ofString ex.cls) = some (.ref C) ∧ cls = .ref C ∧ match ex.val with
  | none => oe = none
  | some n => ∃ d, oe = some d ∧ H d = some (.xd [(exFld ex.cls, .int n)])
/-- a class that is raised with a text -/
structure ExTx (K : PySem.W.Frag) (mg : Str → Option Value) (c : String) (C : Addr) : Prop where
  g : mg (Str.ofString c) = some (.ref C)
  x : PySem.W.excIn K C [.type "ValueError", .type "Exception", .type "BaseException", .type "object"] "ValueError.__new__" = true
  k : PySem.W.keepIn K (.ref C) = true
  b : PySem.W.subIn K (.ref C) (.type "BaseException") = some true
  t : PySem.W.typeIn K (.ref C) = some (.type "type")
  e : PySem.W.exmOne K (.ref C) (.ref C) = some true
/-- a class that is raised with a number -/
structure ExNo (P : Program) (w : World) (K : PySem.W.Frag) (mg : Str → Option Value) (base : Heap) (c : String) (C f : Addr) : Prop where
  g : mg (Str.ofString c) = some (.ref C)
  o : OexC K C
  i : PySem.W.findIn K (.ref C) "__init__" = some (some (.ref f))
  t : PySem.W.typeIn K (.ref f) = some (.type "function")
  n : PySem.W.findIn K (.ref C) (exFld c) = some none
  x : XfC K C
  e : PySem.W.exmOne K (.ref C) (.ref C) = some true
  ok : ∃ (fd : FuncData) (ps : List Str), Binds K fd ps [] ∧ FnOk P w K mg base (L2.CX P w) 1 f fd ps (fun vs H Q _ => ∃ a n, vs = [.ref a, .int n] ∧ H a = some (exo a C none) ∧ ∀ dx, H dx = none → dx ≠ a → Q .non (upd (upd H dx (exd dx [(exFld c, .int n)])) a (exo a C (some dx))))
/-- such an __init__ -/
def initB (f : Str) (q1 q2 q3 q4 : Pos) : List Stmt := [.Assign [.Attribute (.Name "self" q1) f q2] (.Name f q3) q4]
section
variable {P : Program} {w : World} {K : PySem.W.Frag} {mg : Str → Option Value} {base : Heap} {qual g : Str} {st : Stmt} {f : Addr} {fd : FuncData} {C : Addr}
theorem ok_exc (F : Fun K "__init__" qual st f fd) (S : FnScope ["self", g] ["self", g] (defScope st)) (hb : ∃ q1 q2 q3 q4, defBody st = initB g q1 q2 q3 q4) (o : OexC K C) (n : PySem.W.findIn K (.ref C) g = some none)
    (hv : (g == ("__debug__" : Str)) = false := by decide) (hv2 : (g == ("__classdict__" : Str)) = false := by decide)
    (v1 : Vis (defScope st) "self" := by exact .inl rfl) (v2 : Vis (defScope st) g := by exact .inl rfl) :
    FnOk P w K mg base (L2.CX P w) 1 f fd ["self", g] (fun vs H Q _ => ∃ a n, vs = [.ref a, .int n] ∧ H a = some (exo a C none) ∧ ∀ dx, H dx = none → dx ≠ a → Q .non (upd (upd H dx (exd dx [(g, .int n)])) a (exo a C (some dx)))) := by
  refine F.okX S (fun vs H Q E ⟨a, n, e, _⟩ => by rw [e]; rfl) (fun cdv A outer s H vs Q E hr ⟨a, m, e, h, hq⟩ => ?_)
  obtain ⟨q1, q2, q3, q4, hb⟩ := hb
  rw [hb]
  subst e
  refine ⟨_, pss_one (ps_ost (pe_var (i := 0) rfl v1 (by decide) (by decide)) (pe_var (i := 1) rfl v2 hv hv2)), ?_⟩
  exact ⟨.int m, rfl, .ref a, rfl, a, C, rfl, o, n, .inl ⟨h, fun dx h1 h2 => hq dx h1 h2⟩⟩
end

section
variable {XR : XRel} {W : WX} {X : Cx} {S S' S2 L ρ : Type} {G : Ctx S} {G' : Ctx S'} {α β γ ι : Type} {e a b : Expr} {es : List Expr} {pos : Pos} {p p1 p2 p3 : Bool} {Rr : Rl ρ} {Gb : Ctx L} {st : Stmt}
/-- a statement that is never reached -/
def kBad : S → Out S' L ρ := fun _ => .bad
theorem sm_never : SM XR W X Rr Gb G st G' (kBad : S → Out S' L ρ) := ⟨fun _ _ _ => False, ⟨fun pins s σ H D I h => h.elim⟩, fun s F σ H A D g k w => w⟩
/-- raise C('..') -/
def kEr (c : String) : S → Out S' L ρ := fun _ => .er ⟨c, none⟩
theorem sm_raiseT {mg : Str → Option Value} {c : String} {C : Addr} {x m : Str} {j : Nat} {pp p2 pos' : Pos} (hc : X.calm = true) (tk : Takes X W) (T : ExTx X.K X.mg c C) (hx : x = Str.ofString c) (hmg : mg = X.mg) (hg : L2.Gl X x)
    (hdb : (x == ("__debug__" : Str)) = false := by decide) : SM (XRm mg) W X Rr Gb G (.Raise (some (.Call (.Name x pp) [.Constant (.str m) j p2] [] pos)) none pos') G' (kEr c : S → Out S' L ρ) := by
  subst hx hmg
  refine ⟨_, ps_raise hc tk (pmk_own PySem.F.excBase_ValueError T.x T.g T.k (raises_own T.b T.t) hg hdb), fun s F σ H A D g k w => ?_⟩
  exact w (.ref C) none F H σ A ⟨C, T.g, rfl, rfl⟩ (Ext.refl k)
/-- raise C(e), e an int -/
def kErN (c : String) (f : S → Res (Int × S)) : S → Out S' L ρ := fun s => (f s).out fun r => .er ⟨c, some r.1⟩
theorem upd_del {H : Hp} {a d : Addr} {o u v : HO} (ha : H a = none) (hd : H d = none) (ne : d ≠ a) : upd (del (upd (upd (upd H a o) d u) a v) a) d w = upd H d w := by
  funext b
  by_cases h1 : b = d
  · subst h1; rw [upd_same, upd_same]
  · rw [upd_ne h1, upd_ne h1]
    by_cases h2 : b = a
    · subst h2; rw [del_same, ha]
    · rw [del_ne h2, upd_ne h2, upd_ne h1, upd_ne h2]
theorem sm_raiseN {mg : Str → Option Value} {c : String} {C fI : Addr} {x : Str} {f : S → Res (Int × S)} {pp pos' : Pos} {k' : Nat} (hc : X.calm = true) (tk : Takes X W) (T : ExNo X.prog X.w X.K X.mg X.base c C fI) (hr : Room k' X.A) (hk : 2 ≤ k') (hx : x = Str.ofString c) (hmg : mg = X.mg) (hg : L2.Gl X x) (h : EM (XRm mg) W X p G e (fz tInt) f)
    (hdb : (x == ("__debug__" : Str)) = false := by decide) (he : starEach (e :: []) X.env = (false, eval e X.env) :: starEach [] X.env := by rfl) (hpl : (backTo pos (starEach [] X.env)).any (·.1) = false := by rfl) :
    SM (XRm mg) W X Rr Gb G (.Raise (some (.Call (.Name x pp) [e] [] pos)) none pos') G' (kErN c f : S → Out S' L ρ) := by
  subst hx hmg
  obtain ⟨t, ht, h⟩ := h
  obtain ⟨fd, ps, bd, ok⟩ := T.ok
  refine ⟨_, ps_raise hc tk (pmk_oex T.o T.i T.t ok (hr.mono hk) bd .nil (passes_call tk fun _ _ _ _ q => q.elim) hg T.g (pa_cons ht pa_nil he) hdb he hpl), fun s F σ H A D g k w => h s F σ H A _ g k (WPE.bindS (p1 := p) w fun n s1 v F1 H1 B A1 ⟨rB, r1⟩ g1 e1 w => ?_)⟩
  subst rB
  have r1 : v = .int n := r1
  subst r1
  refine ⟨by show 1 ≤ 1000; decide, fun a ha => ⟨a, n, rfl, upd_same, fun dx hdx ne => ⟨rfl, dx, [(exFld c, .int n)], upd_same, ?_, ?_, ?_⟩⟩⟩
  · rw [upd_ne ne, upd_same]
  · rw [upd_ne ne] at hdx; exact hdx
  · rw [upd_ne ne] at hdx
    rw [upd_del ha hdx ne]
    have ex : Ext F1 H1 A1 F1 (upd H1 dx (.xd [(exFld c, .int n)])) A1 := (Ext.newO e1.holds hdx).sub (List.sublist_cons_self _ _)
    exact w (.ref C) (some dx) F1 _ σ A1 ⟨C, T.g, rfl, dx, rfl, upd_same⟩ (e1.trans ex)

/-! ### try: .. except C: .. -/
def noEr : Out S L ρ → Out S L ρ
  | .er _ => .bad
  | .nx s => .nx s
  | .rt r => .rt r
  | .bk l => .bk l
  | .ct l => .ct l
  | .bad => .bad
theorem WPS.noEr {F H : Hp} {A : Ow} {D : Ends} {o : Out S' L ρ} (w : WPS XR W Rr Gb G' F H A D (noEr o)) : WPS XR W0 Rr Gb G' F H A D o := by
  cases o with
  | er ex => exact w.elim
  | nx s => exact w
  | rt r => exact w
  | bk l => exact w
  | ct l => exact w
  | bad => exact w
def kTry (c : String) (fb : S → Out S' L ρ) (fs : Option Int → Out S' L ρ) : S → Out S' L ρ := fun s => match fb s with
  | .er ex => if ex.cls = c then noEr (fs ex.val) else .bad
  | .nx s => .nx s
  | .rt r => .rt r
  | .bk l => .bk l
  | .ct l => .ct l
  | .bad => .bad
/-- where nothing is known of the slots -/
def gtop : Ctx Unit := ⟨fun _ _ _ _ => True, fun _ _ => trivial⟩
theorem takes_len (tk : Takes X W) : Takes X (fun cls d σ H => σ.length = X.N.length → W cls d σ H) := fun u s' ⟨a, B, sI, pins, σ, H, cls, d, e, I, nb, up, sky, na, os, ag, w⟩ => tk u s' ⟨a, B, sI, pins, σ, H, cls, d, e, I, nb, up, sky, na, os, ag, w I.len⟩
theorem all_ss {body : List Stmt} {fb : S → Out S' L ρ} (hb : ∀ (W : WX) (pn : List (Addr × Obj)) (xe : Value → Shared → Prop), Takes (X.tr pn xe) W → PassesOwn (model X.prog X.w) X.A X.env xe → SS XR W (X.tr pn xe) Rr Gb G body G' fb) :
    ∃ tb : WX → TS, (∀ (W : WX) (pn : List (Addr × Obj)) (xe : Value → Shared → Prop), Takes (X.tr pn xe) W → PassesOwn (model X.prog X.w) X.A X.env xe → PSs (X.tr pn xe) body (tb W)) ∧ ∀ W s F σ H A D, G.P s F σ A → Holds F H A → WPS XR W Rr Gb G' F H A D (fb s) → tb W D σ H := by
  refine ⟨fun W D σ H => ∃ s F A, G.P s F σ A ∧ Holds F H A ∧ WPS XR W Rr Gb G' F H A D (fb s), fun W pn xe tk hp => ?_, fun W s F σ H A D g k w => ⟨s, F, A, g, k, w⟩⟩
  obtain ⟨t, ht, h⟩ := hb W pn xe tk hp
  exact ⟨fun pins s σ H D I ⟨s', F, A, g, k, w⟩ => ht.run pins s σ H D I (h s' F σ H A D g k w)⟩
section
variable {mg : Str → Option Value} {c : String} {C : Addr} {x : Str} {np pos2 : Pos} {body suite : List Stmt} {b₀ : Stmt} {fb : S → Out S' L ρ}
theorem sm_tryOnly {fs : Unit → Out S' L ρ} (hs : X.stack = X.env :: X.outer) (hf : X.env.frame = some X.env.locals) (tk : Takes X W) (g : X.mg (Str.ofString c) = some (.ref C)) (ee : PySem.W.exmOne X.K (.ref C) (.ref C) = some true) (hx : x = Str.ofString c) (hmg : mg = X.mg) (hg : L2.Gl X x) (hdb : (x == ("__debug__" : Str)) = false)
    (hb : ∀ (W : WX) (pn : List (Addr × Obj)) (xe : Value → Shared → Prop), Takes (X.tr pn xe) W → PassesOwn (model X.prog X.w) X.A X.env xe → SS (XRm mg) W (X.tr pn xe) Rr Gb G body G' fb)
    (hsu : ∀ (a : Addr) (pn : List (Addr × Obj)), SS (XRm mg) W0 (X.suite a pn) Rr Gb gtop (b₀ :: suite) G' fs) :
    SM (XRm mg) W X Rr Gb G (.Try body [.ExceptHandler (some (.Name x np)) none (b₀ :: suite) pos2] [] [] pos) G' (kTry c fb fun _ => fs ()) := by
  subst hx hmg
  obtain ⟨tb, h1, h2⟩ := all_ss hb
  have hsu' : ∃ ts : TS, (∀ (a : Addr) (pn : List (Addr × Obj)), PSs (X.suite a pn) (b₀ :: suite) ts) ∧ ∀ F σ H A D, Holds F H A → WPS (XRm X.mg) W0 Rr Gb G' F H A D (fs ()) → ts D σ H :=
    ⟨fun D σ H => ∃ F A, Holds F H A ∧ WPS (XRm X.mg) W0 Rr Gb G' F H A D (fs ()), fun a pn => by
      obtain ⟨t, ht, h⟩ := hsu a pn
      exact ⟨fun pins s σ H D I ⟨F, A, k, w⟩ => ht.run pins s σ H D I (h () F σ H A D trivial k w)⟩, fun F σ H A D k w => ⟨F, A, k, w⟩⟩
  obtain ⟨ts, h3, h4⟩ := hsu'
  refine ⟨_, ps_try_only (ts := fun _ _ _ => ts) hs hf ⟨hg, hdb, .inl g⟩ tk h1 (fun a oe cls d pn _ _ => h3 a _), fun s F σ H A D gg k w => h2 _ s F σ H A D gg k ?_⟩
  unfold kTry at w
  cases q : fb s with
  | nx s1 => rw [q] at w; exact w
  | rt r => rw [q] at w; exact w
  | bk l => rw [q] at w; exact w
  | ct l => rw [q] at w; exact w
  | bad => rw [q] at w; exact w
  | er ex =>
    rw [q] at w
    dsimp only at w
    intro cls oe F' H' σ' A' ⟨C', m, ec, _⟩ e1
    by_cases hh : ex.cls = c
    · rw [if_pos hh] at w
      rw [hh, g] at m
      cases m
      subst ec
      refine ⟨true, ee, fun _ a _ => h4 F' σ' H' A' D e1.holds ?_, fun z => by cases z⟩
      exact (w.later e1).noEr
    · rw [if_neg hh] at w; exact w.elim

/-- except C as e: return ('..', e.position) -/
theorem sm_tryStop {i k2 j : Nat} {y m fl : Str} {fI : Addr} {py ps pa pt pr : Pos} {inj : Int → ρ} (hs : X.stack = X.env :: X.outer) (hf : X.env.frame = some X.env.locals) (hN : X.N.Nodup) (hi : X.N[i]? = some y) (hln : X.env.kindOf y = some .local) (hv : Vis X.env.scope y) (tk : Takes X W) (T : ExNo X.prog X.w X.K X.mg X.base c C fI) (hx : x = Str.ofString c) (hfl : fl = exFld c) (hmg : mg = X.mg) (hg : L2.Gl X x) (hdb : (x == ("__debug__" : Str)) = false)
    (hb : ∀ (W : WX) (pn : List (Addr × Obj)) (xe : Value → Shared → Prop), Takes (X.tr pn xe) W → PassesOwn (model X.prog X.w) X.A X.env xe → SS (XRm mg) W (X.tr pn xe) Rr Gb G body G' fb)
    (hR : ∀ n F q, F q = some (.tup [.str m, .int n]) → Rr.P F (.ref q) (inj n) [])
    (hb2 : attributeBase (.Name y py) fl X.env (eval (.Name y py) X.env) = eval (.Name y py) X.env)
    (h1s : starEach [.Constant (.str m) j ps, .Attribute (.Name y py) fl pa] X.env = (false, eval (.Constant (.str m) j ps) X.env) :: starEach [.Attribute (.Name y py) fl pa] X.env)
    (h2s : starEach [.Attribute (.Name y py) fl pa] X.env = (false, eval (.Attribute (.Name y py) fl pa) X.env) :: starEach [] X.env)
    (hd : (y == ("__debug__" : Str)) = false := by decide) (hcd : (y == ("__classdict__" : Str)) = false := by decide) :
    SM (XRm mg) W X Rr Gb G (.Try body [.ExceptHandler (some (.Name x np)) (some y) [.Return (some (.Tuple [.Constant (.str m) j ps, .Attribute (.Name y py) fl pa] k2 pt)) pr] pos2] [] [] pos) G' (kTry c fb fun v => match v with | some n => .rt (inj n) | none => .bad) := by
  subst hx hmg hfl
  obtain ⟨tb, h1, h2⟩ := all_ss hb
  have hi2 : i < X.N.length := (List.getElem?_eq_some_iff.mp hi).1
  refine ⟨_, ps_try_as (i := i) (c := .ref C) (tb := fun W' => tb fun cls d σ H => σ.length = X.N.length → W' cls d σ H) hs hf hN hi hln ⟨hg, hdb, .inl T.g⟩ tk (fun W' pn xe tk' hp => h1 _ pn xe (takes_len tk') hp) (fun a oe cls d pn hz hfv => pss_one (ps_ret (pe_tup (pa_cons pe_str (pa_cons (pe_xf T.x T.n hz hfv (pe_var (X := X.suite a ((a, oe) :: pn)) hi hv hd hcd) hb2) pa_nil h2s) h1s)))), fun s F σ H A D gg k w => h2 _ s F σ H A D gg k ?_⟩
  unfold kTry at w
  cases q : fb s with
  | nx s1 => rw [q] at w; exact w
  | rt r => rw [q] at w; exact w
  | bk l => rw [q] at w; exact w
  | ct l => rw [q] at w; exact w
  | bad => rw [q] at w; exact w
  | er ex =>
    rw [q] at w
    dsimp only at w
    intro cls oe F' H' σ' A' ⟨C', g, ec, xx⟩ e1 hlen
    by_cases hh : ex.cls = c
    · rw [if_pos hh] at w
      rw [hh, T.g] at g
      cases g
      subst ec
      cases hv : ex.val with
      | none => rw [hv] at w; exact w.elim
      | some n =>
        rw [hv] at w xx
        obtain ⟨dd, ed, hdd⟩ := xx
        refine ⟨true, T.e, fun _ a na => ?_, fun z => by cases z⟩
        have hsl : (σ'.set i (some (V.ref a)))[i]? = some (some (V.ref a)) := List.getElem?_set_self (by rw [hlen]; exact hi2)
        refine ⟨.ref a, hsl, rfl, rfl, dd, _, .int n, ed, by rw [hh] at hdd; exact hdd, by simp [List.lookup], by show 2 ≤ sizeLine; decide, fun pn hpn => ?_⟩
        have ex : Ext F' H' A' (upd F' pn (.tup [.str m, .int n])) (upd H' pn (.tup [.str m, .int n])) A' := Ext.newF e1.holds hpn
        exact w _ _ _ [] (hR n _ pn upd_same) ((e1.trans ex).sub (List.nil_sublist _))
    · rw [if_neg hh] at w; exact w.elim
end
end
end TC
/-! C(..) whose exceptions are wished for at the caller's slots; the number of different ints; == of alternatives and wide tuples -/
namespace TC
open PySem PySem.Spec PyProof.Rows L2
section
variable {XR : XRel} {W : WX} {X : Cx} {S S' S2 L ρ : Type} {G : Ctx S} {G' : Ctx S'} {α β γ ι : Type} {e a b : Expr} {es : List Expr} {pos : Pos} {p p1 p2 p3 : Bool} {Rr : Rl ρ} {Gb : Ctx L}

/-! ### C(..) -/
def tMk (C : Addr) (sp : Sp) (E : St → XK) (t : TA) : TE := fun σ H Q => t σ H fun vs H1 => ∀ o d, H1 o = none → H1 d = none → d ≠ o → sp (.ref o :: vs) (upd (upd H1 d (.own o)) o (.ins C d [])) (fun v H2 => v = .non ∧ Q (.ref o) H2) (E σ)
theorem pe_mk {k : Nat} {C f : Addr} {fd : FuncData} {ps : List Str} {sp : Sp} {E : St → XK} {x : Str} {pp : Pos} {t : TA} (M : Mk X.K C f) (Fk : FnOk X.prog X.w X.K X.mg X.base (L2.CX X.prog X.w) k f fd ps sp) (hr : Room (k + 1) X.A) (hg : L2.Gl X x) (hm : X.mg x = some (.ref C)) (hb : Binds X.K fd ps []) (tk : Takes X (fun cls d σ H => E σ cls d H))
    (ha : PA X (e :: es) t) (hdb : (x == ("__debug__" : Str)) = false := by decide) (he : starEach (e :: es) X.env = (false, eval e X.env) :: starEach es X.env := by rfl) (hpl : (backTo pos (starEach es X.env)).any (·.1) = false := by rfl) :
    PE X (.Call (.Name x pp) (e :: es) [] pos) (tMk C sp E t) := by
  refine ⟨fun pins s σ H Q I h => wpAny_Call_Name_kw (ld_glob I hg hm ?_ hdb)⟩
  refine PySem.W.callWith_K (h₀ := X.base) I.ok.mod.kin M.kp (thn (ha.run pos pins s σ H _ I h) fun us s1 ⟨vs, H1, I1, r, q⟩ => ⟨I1.kIn, ?_⟩) he hpl
  have new := Inv.made (C := C) I1
  have q0 := q _ _ (I1.hok.fresh (Nat.le_succ s1.heap.objs.size)) (I1.hok.fresh (Nat.le_refl _)) (Nat.ne_of_lt (Nat.lt_succ_self _))
  have rv : Vals (V.ref (s1.heap.objs.size + 1) :: vs) (Value.ref (s1.heap.objs.size + 1) :: us) := .cons rfl r
  have hlen : (Value.ref (s1.heap.objs.size + 1) :: us ++ []).length = ps.length := by rw [List.append_nil, ← rv.length, Fk.len _ _ _ _ q0]
  have bnd := hb _ (Value.ref (s1.heap.objs.size + 1) :: us) new.kIn hlen
  rw [List.append_nil] at bnd
  refine wpAny_call (make_map (f := f) I1.kIn M.makes M.init (beq_iff_eq.mp M.fn) (codeAny_mono (Fk.run _ X.stack _ _ ⟨Value.ref (s1.heap.objs.size + 1) :: us, []⟩ _ _ _ (E σ) (hr.make C us []) (new.env0.make C us []) bnd rv q0) fun o s2 ho => ?_))
  rcases o with er | fl
  · exact tk _ _ (XE.of_call new (fun _ _ _ z => z) ho)
  · rcases fl with _ | _ | _ | u
    all_goals first | exact ho.elim | skip
    obtain ⟨v, H2, I2, r2, rfl, q2⟩ := new.after ho
    exact ⟨r2, .ref (s1.heap.objs.size + 1), H2, I2, rfl, q2⟩
theorem em_makeS {fr : FR α} {C fi : Addr} {k : Nat} {fd : FuncData} {ps : List Str} {x : Str} {pp : Pos} {Z : RA β} {m : Unit × β → Res α} {fargs : S → Res (β × S)} (tk : Takes X W) (M : Mk X.K C fi) (Fk : FnOk X.prog X.w X.K X.mg X.base (L2.CX X.prog X.w) k fi fd ps (spI XR C fr Z m)) (hr : Room (k + 1) X.A) (hg : L2.Gl X x) (hm : X.mg x = some (.ref C)) (hb : Binds X.K fd ps [])
    (ha : AM XR W X p G (e :: es) Z fargs) (hdb : (x == ("__debug__" : Str)) = false := by decide) (he : starEach (e :: es) X.env = (false, eval e X.env) :: starEach es X.env := by rfl) (hpl : (backTo pos (starEach es X.env)).any (·.1) = false := by rfl) :
    EM XR W X p G (.Call (.Name x pp) (e :: es) [] pos) (fz (tIns C fr)) (kMake m fargs) := by
  obtain ⟨t, ht, h⟩ := ha
  refine ⟨_, pe_mk (E := fun σ cls d H => W cls d σ H) M Fk hr hg hm hb tk ht hdb he hpl, fun s F σ H A Q g kk w => h s F σ H A _ g kk (WPA.bindE w fun y s1 vs F1 H1 B A1 r1 g1 e1 q1 w => ?_)⟩
  intro ax dx hx hdx ne
  have n2 : upd H1 dx (.own ax) ax = none := by rw [upd_ne ne.symm]; exact hx
  have k1 : Ext F1 H1 (B ++ A1) F1 (upd H1 dx (.own ax)) (B ++ A1) := (Ext.newO e1.holds hdx).sub (List.sublist_cons_self _ _)
  have k2 := k1.trans (Ext.newO (o := .ins C dx []) k1.holds n2)
  refine ⟨ax, ((), y), F1, (ax, .ins C dx []) :: B, ⟨.ref ax, vs, [(ax, .ins C dx [])], B, rfl, rfl, ⟨rfl, dx, [], rfl, rfl⟩, r1⟩, k2.holds.sub (List.Sublist.cons_cons _ (List.sublist_append_left _ _)), ?_⟩
  cases q : m ((), y) with
  | bad => dsimp only at w; rw [q] at w; exact w.elim
  | er ex =>
    dsimp only at w
    rw [q] at w
    exact fun cls oe F' H' A' h1 h2 => w cls oe F' H' (A' ++ A1) h1 ((e1.trans k2).trans (Ext.frame (A := (ax, .ins C dx []) :: B) (B := A1) k2.holds h2))
  | ok z =>
    dsimp only at w
    rw [q] at w
    rintro v F' H' A' ⟨rfl, dx', fs', rfl, rz⟩ h2
    refine ⟨rfl, ?_⟩
    have fr1 := Ext.frame (A := (ax, .ins C dx []) :: B) (B := A1) k2.holds h2
    have fz1 : Ext F' H' ((ax, .ins C dx' fs') :: A1) (upd F' ax (.ins C dx' fs')) H' A1 := Ext.freeze fr1.holds
    exact w _ _ H' [] A1 ⟨rfl, ax, dx', fs', rfl, upd_same, fr.mono rz fz1.fz⟩ (G.mono (G.mono g1 h2.fz) fz1.fz) (((e1.trans k2).trans fr1).trans fz1) q1

/-! ### len(set(xs)), xs ints -/
def distinct [DecidableEq α] : List α → List α → List α
  | [], acc => acc
  | x :: xs, acc => if x ∈ acc then distinct xs acc else distinct xs (acc ++ [x])
def nDiff [DecidableEq α] (xs : List α) : Int := ((distinct xs []).length : Int)
theorem dedup_eq : ∀ (xs acc : List Int), xs.foldl step_dedup acc = distinct xs acc
  | [], acc => rfl
  | x :: xs, acc => by
    rw [List.foldl_cons, distinct, dedup_eq xs]
    unfold step_dedup
    by_cases h : x ∈ acc
    · rw [if_pos h, if_pos (by simpa using h)]
    · rw [if_neg h, if_neg (by simpa using h)]
theorem firstMet_eq (ns : List Int) : firstMet (fun i => ns.getD i 0) ns.length = distinct ns [] := by
  unfold firstMet
  rw [dedup_eq]
  congr 1
  refine List.ext_getElem (by simp) fun i h1 h2 => ?_
  simp [List.getD_eq_getElem?_getD, List.getElem?_eq_getElem h2]
theorem distinct_le [DecidableEq α] : ∀ (xs acc : List α), (distinct xs acc).length ≤ acc.length + xs.length
  | [], acc => Nat.le_refl _
  | x :: xs, acc => by
    rw [distinct]
    split
    · have := distinct_le xs acc; rw [List.length_cons]; omega
    · have := distinct_le xs (acc ++ [x]); simp at this ⊢; omega
theorem pe_lenSetD {ta : TE} {q q2 q3 : Pos} (hc : X.calm = true) (hg : L2.Gl X "len") (hm : X.mg "len" = none) (hg2 : L2.Gl X "set") (hm2 : X.mg "set" = none) (ha : PE X a ta) (na : starEach [a] X.env = (false, eval a X.env) :: starEach [] X.env := by rfl) :
    PE X (.Call (.Name "len" q) [.Call (.Name "set" q2) [a] [] q3] [] pos) (fun σ H Q => ta σ H fun x H1 => ∃ (l : Addr) (ns : List Int), x = .ref l ∧ SqL X.K H1 l (ns.map V.int) ∧ ns.length ≤ 4000 ∧ Q (.int (nDiff ns)) H1) := by
  refine ⟨fun pins s σ H Q I h => Call_ (ld_blt I hg hm boot_len ?_)⟩
  refine PyProof.Rows.callWith_builtin1 (PyProof.Rows.args_cons (Call_ (ld_blt I hg2 hm2 boot_set ?_)) rfl) rfl rfl
  refine PyProof.Rows.callWith_type1 (PyProof.Rows.args_cons (thn (ha.run pins s σ H _ I h) fun v s1 hv => PyProof.Rows.args_nil ?_) na) na rfl
  obtain ⟨x, H1, I1, r1, l, ns, rfl, hq, hl, q1⟩ := hv
  cases r1
  obtain ⟨us, r, pl, hz⟩ := I1.list hq
  have hn : us.toArray.size = ns.length := by rw [List.size_toArray, ← r.length, List.length_map]
  have hle := distinct_le ns []
  have l0 : ([] : List Int).length = 0 := rfl
  rw [l0] at hle
  refine call_set_list (I1.ok.hd hc) pl.isList (by simpa using RZ.intsAre_vals r) (by rw [hn]; unfold scanBound; omega) fun h2 tk hS keep => PyProof.Rows.args_nil ?_
  rw [hn, firstMet_eq] at hS
  obtain ⟨o, es, ep, t, ho, hex, hd, _, _, _, hf, hcnt⟩ := hS
  have I2 : Inv X pins σ H1 { s1 with heap := h2, toks := tk } := I1.kept fun b o e => keep b o (Heap.lt_size e) e
  exact call_len_set ho hex hd hf (by rw [hcnt]; omega) ⟨.int (nDiff ns), H1, I2.tok _, ⟨_, by rw [hcnt]; rfl⟩, q1⟩
def mDiff [DecidableEq α] (xs : List α) : Res Int := if xs.length ≤ 4000 then .ok (nDiff xs) else .bad
theorem em_lenSet {f : S → Res (List Int × S)} {q q2 q3 : Pos} (hc : X.calm = true) (hg : L2.Gl X "len") (hm : X.mg "len" = none) (hg2 : L2.Gl X "set") (hm2 : X.mg "set" = none) (ha : EM XR W X p G a (fz (tLst tInt)) f) (na : starEach [a] X.env = (false, eval a X.env) :: starEach [] X.env := by rfl) :
    EM XR W X p G (.Call (.Name "len" q) [.Call (.Name "set" q2) [a] [] q3] [] pos) (fz tInt) (kU mDiff f) := by
  obtain ⟨t, ht, h⟩ := ha
  refine ⟨_, pe_lenSetD hc hg hm hg2 hm2 ht na, fun s F σ H A Q g k w => h s F σ H A _ g k (WPE.bind w fun x s1 v F1 H1 B A1 ⟨rB, a, vs, ev, q, r⟩ g1 e1 q1 w => ?_)⟩
  subst rB ev
  dsimp only at w
  unfold mDiff at w
  by_cases hl : x.length ≤ 4000
  · rw [if_pos hl] at w
    exact ⟨a, x, rfl, by rw [← ints_map r]; exact SqL.of (e1.holds.fz _ _ q), hl, w _ F1 H1 [] A1 ⟨rfl, rfl⟩ g1 e1 q1⟩
  · rw [if_neg hl] at w; exact w.elim

/-! ### texts: their code points -/
def tTxt : Ty (List Nat) := ⟨fun _ v x => v = .str ⟨x.toArray⟩ ∧ ∀ c ∈ x, c < 0x110000, fun h _ => h⟩
theorem em_txt {i : Str} {j : Nat} {x : List Nat} (h : i.cps.toList = x) (hx : (x.all fun c => decide (c < 0x110000)) = true) : EM XR W X true G (.Constant (.str i) j pos) (fz tTxt) (kC x) :=
  ⟨_, pe_str, fun s F σ H A Q g k w => w _ F H [] A ⟨rfl, by subst h; rfl, fun c hc => by simpa using List.all_eq_true.mp hx c hc⟩ g (Ext.refl k) fun _ => ⟨rfl, rfl⟩⟩
def scTxt : Scal tTxt := ⟨fun x => V.str ⟨x.toArray⟩, fun _ _ _ h => h.1, fun x y h => by injection h with h; injection h with h; simpa using h, fun _ _ => rfl, fun _ => rfl, fun x y => by
  show ((⟨x.toArray⟩ : Str) == ⟨y.toArray⟩) = _
  rw [Bool.beq_eq_decide_eq]
  exact dec_congr ⟨fun h => by injection h with h; simpa using h, fun h => by rw [h]⟩⟩
theorem nnTxt : ∀ F v x, tTxt.R F v x → v ≠ .non := fun F v x e z => by rw [e.1] at z; cases z

/-! ### == -/
section
variable {K : PySem.W.Frag} {T : Ty α} {U : Ty β} {V' : Ty γ} [DecidableEq α] [DecidableEq β] [DecidableEq γ]
def eqAlt (c : EqT K T) (d : EqT K U) (nn : ∀ x y, PyData.eqv (c.enc x) (d.enc y) = false ∧ PyData.eqv (d.enc y) (c.enc x) = false) : EqT K (tAlt T U) := ⟨fun o => match o with | .inl x => c.enc x | .inr y => d.enc y,
  fun {H v x} r => by
    cases x with
    | inl y => exact c.dp r
    | inr y => exact d.dp r,
  fun {H v x} r => by
    cases x with
    | inl y => exact c.lay r
    | inr y => exact d.lay r,
  max c.d d.d, fun x => by
    cases x with
    | inl y => exact Nat.le_trans (c.dep y) (Nat.le_max_left _ _)
    | inr y => exact Nat.le_trans (d.dep y) (Nat.le_max_right _ _),
  fun x y => by
    cases x with
    | inl x => cases y with
      | inl y => simp [c.eqv]
      | inr y => simp [(nn x y).1]
    | inr x => cases y with
      | inl y => simp [(nn y x).2]
      | inr y => simp [d.eqv]⟩
def eqP3 (c : EqT K T) (d : EqT K U) (e : EqT K V') : EqT K (tP3 T U V') := ⟨fun x => .tuple [c.enc x.1, d.enc x.2.1, e.enc x.2.2],
  fun ⟨a, v1, v2, v3, ev, q, r1, r2, r3⟩ => by rw [ev]; exact .tup (SqT.of q) (.cons (c.dp r1) (.cons (d.dp r2) (.cons (e.dp r3) .nil))), fun ⟨a, v1, v2, v3, ev, q, r1, r2, r3⟩ => by simp [PyData.canLay0, PyData.canLayAll0, c.lay r1, d.lay r2, e.lay r3],
  max c.d (max d.d e.d) + 1, fun x => by
    have h1 := c.dep x.1
    have h2 := d.dep x.2.1
    have h3 := e.dep x.2.2
    simp only [PyData.depth, PyData.depthAll]
    omega,
  fun x y => by
    simp only [PyData.eqv, PyData.eqvAll, c.eqv, d.eqv, e.eqv]
    rw [Bool.eq_iff_iff]
    simp [Prod.ext_iff]⟩
def eqTxt : EqT K tTxt := ⟨fun x => .str ⟨x.toArray⟩, fun r => by rw [r.1]; exact .str _, fun {H v x} r => by
    show PyData.strOk _ = true
    unfold PyData.strOk
    simpa using r.2, 0, fun _ => Nat.le_refl _, fun x y => by
    rw [PyData.eqv, Bool.beq_eq_decide_eq]
    exact dec_congr ⟨fun h => by simpa using h, fun h => by rw [h]⟩⟩
end
end
end TC
/-! the new words, by what they ask; from a promise over one way that exceptions lie to another -/
namespace TC
open PySem PySem.Spec PyProof.Rows L2
section
variable {S S' S2 L L' L1 ρ P : Type} {α β γ ι : Type} {E : Ex → Prop} {s : S} {R : ρ → Prop} {B C : L → Prop} {Q : S' → Prop} {QS : S → Prop} {Q2 : S2 → Prop} {Qa : α × S → Prop}
theorem Out.is_er {e : Ex} : (Out.er e : Out S L ρ).Is E R B C QS = E e := by rw [Out.is_z]; exact propext Iff.rfl
theorem Out.is_bad {R : ρ → Prop} : (Out.bad : Out S L ρ).Is E R B C QS = False := by rw [Out.is_z]; exact propext Iff.rfl
theorem w_Bad : (kBad s : Out S' L ρ).Is E R B C Q = False := by unfold kBad; exact Out.is_bad
theorem w_Er {c : String} : (kEr c s : Out S' L ρ).Is E R B C Q = E ⟨c, none⟩ := by unfold kEr; exact Out.is_er
theorem w_ErN {c : String} {f : S → Res (Int × S)} : (kErN c f s : Out S' L ρ).Is E R B C Q = (f s).Is E fun r => E ⟨c, some r.1⟩ := by unfold kErN; simp only [Res.is_out, Out.is_er]
theorem w_Try {c : String} {fb : S → Out S' L ρ} {fs : Option Int → Out S' L ρ} : (kTry c fb fs s).Is E R B C Q = (fb s).Is (fun ex => if ex.cls = c then (noEr (fs ex.val)).Is E R B C Q else False) R B C Q := by
  unfold kTry
  cases fb s with
  | er ex =>
    dsimp only
    rw [Out.is_er]
    by_cases h : ex.cls = c
    · rw [if_pos h, if_pos h]
    · rw [if_neg h, if_neg h, Out.is_bad]
  | nx a => dsimp only; rw [Out.is_nx, Out.is_nx]
  | rt a => dsimp only; rw [Out.is_rt, Out.is_rt]
  | bk a => dsimp only; rw [Out.is_bk, Out.is_bk]
  | ct a => dsimp only; rw [Out.is_ct, Out.is_ct]
  | bad => dsimp only; rw [Out.is_bad, Out.is_bad]
theorem noEr_rt {r : ρ} : (noEr (Out.rt r : Out S L ρ)) = .rt r := rfl
theorem w_noErRt {r : ρ} : (noEr (Out.rt r : Out S L ρ)).Is E R B C QS = R r := by rw [noEr_rt, Out.is_rt]
theorem w_Cut {f : S → Res (List α × S)} {lo hi : S → Res (Option Int × S)} {Ql : List α × S → Prop} : (kCut f lo hi s).Is E Ql = (f s).Is E fun r => (lo r.2).Is E fun l => (hi l.2).Is E fun h => Ql (mCut r.1 l.1 h.1, h.2) := by unfold kCut; simp only [Res.is_bind, Res.is_ok]
theorem w_AugIx {get : S → List Int} {put : S → List Int → S} {op : Int → Int → Int} {fi f : S → Res (Int × S)} : (kAugIx get put op fi f s : Out S L ρ).Is E R B C QS = (fi s).Is E fun q => (mIx (get q.2) q.1).Is E fun x => (f q.2).Is E fun r => (mSet (get r.2) q.1 (op x r.1)).Is E fun z => QS (put r.2 z) := by
  unfold kAugIx; simp only [Res.is_out, Out.is_nx]
theorem is_mSome {o : Option α} {Q : α → Prop} (x : α) (h : o = some x) (k : Q x) : (mSome o).Is E Q := by subst h; exact isk k
theorem w_mSome {x : α} {Q : α → Prop} : (mSome (some x)).Is E Q = Q x := Res.is_ok
theorem w_mInl {x : α} {Q : α → Prop} : (mInl (.inl x : α ⊕ β)).Is E Q = Q x := Res.is_ok
theorem w_mInr {x : β} {Q : β → Prop} : (mInr (.inr x : α ⊕ β)).Is E Q = Q x := Res.is_ok
theorem mAlt_l {g1 : α → γ} {g2 : β → γ} {x : α} : mAlt g1 g2 (.inl x) = g1 x := rfl
theorem mAlt_r {g1 : α → γ} {g2 : β → γ} {x : β} : mAlt g1 g2 (.inr x) = g2 x := rfl
theorem is_mDiff [DecidableEq α] {xs : List α} {Q : Int → Prop} (h : xs.length ≤ 4000) (k : Q (nDiff xs)) : (mDiff xs).Is E Q := by unfold mDiff; rw [if_pos h]; exact isk k
theorem distinct_nodup [DecidableEq α] : ∀ (xs acc : List α), (∀ x ∈ xs, x ∉ acc) → xs.Nodup → distinct xs acc = acc ++ xs
  | [], acc, _, _ => by rw [distinct, List.append_nil]
  | x :: xs, acc, h, nd => by
    obtain ⟨n1, n2⟩ := List.nodup_cons.mp nd
    rw [distinct, if_neg (h x List.mem_cons_self), distinct_nodup xs (acc ++ [x]) (fun y hy z => by
      rcases List.mem_append.mp z with z | z
      · exact h y (List.mem_cons_of_mem _ hy) z
      · rw [List.mem_singleton.mp z] at hy; exact n1 hy) n2, List.append_assoc, List.singleton_append]
theorem distinct_lt [DecidableEq α] : ∀ (xs acc : List α), ¬ ((∀ x ∈ xs, x ∉ acc) ∧ xs.Nodup) → (distinct xs acc).length < acc.length + xs.length
  | [], acc, h => absurd ⟨(fun _ m => by cases m), List.nodup_nil⟩ h
  | x :: xs, acc, h => by
    rw [distinct]
    by_cases hx : x ∈ acc
    · rw [if_pos hx]
      have := distinct_le xs acc
      rw [List.length_cons]; omega
    · rw [if_neg hx]
      have := distinct_lt xs (acc ++ [x]) (fun ⟨h1, h2⟩ => h ⟨fun y hy => by
        rcases List.mem_cons.mp hy with e | e
        · rw [e]; exact hx
        · intro z; exact h1 y e (List.mem_append_left _ z), List.nodup_cons.mpr ⟨fun z => h1 x z (List.mem_append_right _ (List.mem_singleton_self _)), h2⟩⟩)
      simp at this ⊢; omega
theorem nDiff_eq [DecidableEq α] (xs : List α) : nDiff xs = (xs.length : Int) ↔ xs.Nodup := by
  unfold nDiff
  by_cases h : xs.Nodup
  · rw [distinct_nodup xs [] (fun _ _ z => by cases z) h, List.nil_append]
    exact ⟨fun _ => h, fun _ => rfl⟩
  · have := distinct_lt xs [] (fun z => h z.2)
    simp at this
    exact ⟨fun z => by omega, fun z => absurd z h⟩
end
section
variable {ι P' ρ : Type} {Z : ι → RA P'} {R : ι → Rl ρ} {m : P' → Res ρ} {XR : XRel}
theorem spF_weak {vs : List V} {H : Hp} {Q : VK} {E : XK} : spF (fun _ _ _ _ => True) Z R m vs H Q E → spF XR Z R m vs H Q E := fun ⟨i, x, F, A, hz, hh, w⟩ => ⟨i, x, F, A, hz, hh, by
  cases q : m x with
  | ok r => rw [q] at w; exact w
  | bad => rw [q] at w; exact w.elim
  | er ex => rw [q] at w; exact fun cls oe F' H' A' _ h => w cls oe F' H' A' trivial h⟩
end
theorem exm_me {K : PySem.W.Frag} {C : Addr} (hb : PySem.W.subIn K (.ref C) (.type "BaseException") = some true) (hc : PySem.W.isClsIn K C = true) (ht : PySem.W.typeIn K (.ref C) = some (.type "type")) (hs : PySem.W.subIn K (.ref C) (.ref C) = some true) : PySem.W.exmOne K (.ref C) (.ref C) = some true := by
  have k : ((PySem.W.clsIn K C).isSome && PySem.W.typeIn K (.ref C) == some (.type "type")) = true := Bool.and_eq_true_iff.mpr ⟨hc, by rw [ht]; rfl⟩
  unfold PySem.W.exmOne
  rw [if_pos (by rw [hb]; rfl)]
  exact (if_pos k).trans hs
end TC
/-! list(range(n)), tuple(range(n)) -/
namespace TC
open PySem PySem.Spec PyProof.Rows L2
section
variable {XR : XRel} {W : WX} {X : Cx} {S S' S2 L ρ : Type} {G : Ctx S} {G' : Ctx S'} {α β γ ι : Type} {e a b : Expr} {es : List Expr} {pos : Pos} {p p1 p2 p3 : Bool} {Rr : Rl ρ} {Gb : Ctx L}
def mRng (n : Int) : Res (List Int) := if -1000000 ≤ n ∧ n ≤ 1000000 then .ok (irange 0 n) else .bad
theorem rgv_irange {F : Hp} (n : Int) : All2 (tInt.R F) (rgV 0 n) (irange 0 n) := by
  unfold rgV irange
  exact all2_irange _
theorem em_listR {f : S → Res (Int × S)} {q q2 q3 : Pos} (hc : X.calm = true) (hg : L2.Gl X "list") (hm : X.mg "list" = none) (hg2 : L2.Gl X "range") (hm2 : X.mg "range" = none) (h : EM XR W X p G a (fz tInt) f)
    (hs : starEach [a] X.env = [(false, eval a X.env)] := by rfl) (na : starEach [.Call (.Name "range" q2) [a] [] q3] X.env = (false, eval (.Call (.Name "range" q2) [a] [] q3) X.env) :: starEach [] X.env := by rfl) :
    EM XR W X p G (.Call (.Name "list" q) [.Call (.Name "range" q2) [a] [] q3] [] pos) (oL tInt) (kU mRng f) := by
  obtain ⟨t, ht, h⟩ := h
  refine ⟨_, pe_listRg hc hg hm (prg_1 hg2 hm2 ht hs) na, fun s F σ H A Q g k w => h s F σ H A _ g k (WPE.bind w fun n s1 v F1 H1 B A1 ⟨rB, r1⟩ g1 e1 q1 w => ?_)⟩
  subst rB
  have r1 : v = .int n := r1
  subst r1
  dsimp only at w
  unfold mRng at w
  by_cases hn : -1000000 ≤ n ∧ n ≤ 1000000
  · rw [if_pos hn] at w
    refine ⟨n, rfl, ⟨by omega, by omega, by omega, by omega, by omega⟩, fun l hl => ?_⟩

    exact w _ F1 _ [(l, .lst _)] A1 ⟨l, _, rfl, rfl, rgv_irange n⟩ g1 (e1.trans (Ext.newO e1.holds hl)) q1
  · rw [if_neg hn] at w; exact w.elim
theorem em_tupR {f : S → Res (Int × S)} {q q2 q3 : Pos} (hc : X.calm = true) (hg : L2.Gl X "tuple") (hm : X.mg "tuple" = none) (hg2 : L2.Gl X "range") (hm2 : X.mg "range" = none) (h : EM XR W X p G a (fz tInt) f)
    (hs : starEach [a] X.env = [(false, eval a X.env)] := by rfl) (na : starEach [.Call (.Name "range" q2) [a] [] q3] X.env = (false, eval (.Call (.Name "range" q2) [a] [] q3) X.env) :: starEach [] X.env := by rfl) :
    EM XR W X p G (.Call (.Name "tuple" q) [.Call (.Name "range" q2) [a] [] q3] [] pos) (fz (tTup tInt)) (kU mRng f) := by
  obtain ⟨t, ht, h⟩ := h
  refine ⟨_, pe_tupRg hc hg hm (prg_1 hg2 hm2 ht hs) na, fun s F σ H A Q g k w => h s F σ H A _ g k (WPE.bind w fun n s1 v F1 H1 B A1 ⟨rB, r1⟩ g1 e1 q1 w => ?_)⟩
  subst rB
  have r1 : v = .int n := r1
  subst r1
  dsimp only at w
  unfold mRng at w
  by_cases hn : -1000000 ≤ n ∧ n ≤ 1000000
  · rw [if_pos hn] at w
    refine ⟨n, rfl, ⟨by omega, by omega, by omega, by omega, by omega⟩, fun l hl => ?_⟩

    have ex : Ext F1 H1 A1 (upd F1 l (.tup (rgV 0 n))) (upd H1 l (.tup (rgV 0 n))) A1 := Ext.newF e1.holds hl
    exact w _ _ _ [] A1 ⟨rfl, l, _, rfl, upd_same, rgv_irange n⟩ (G.mono g1 ex.fz) (e1.trans ex) q1
  · rw [if_neg hn] at w; exact w.elim
theorem is_mRng {n : Int} {Q : List Int → Prop} {E : Ex → Prop} (h : -1000000 ≤ n ∧ n ≤ 1000000) (k : Q (irange 0 n)) : (mRng n).Is E Q := by unfold mRng; rw [if_pos h]; exact isk k
theorem em_chain2 {δ : Type} {op op' : CmpOp} {T : Ty α} {U : Ty β} {V' : Ty δ} {g : α → β → Bool} {g' : β → δ → Bool} {c : Expr} {fa : S → Res (α × S)} {fb : S → Res (β × S)} {fc : S → Res (δ × S)} (c1 : Cmp X op T U g) (c2 : Cmp X op' U V' g') (ha : EM XR W X p1 G a (fz T) fa) (hb : EM XR W X p2 G b (fz U) fb) (hc : EM XR W X p3 G c (fz V') fc) (hm : lastMarks [op, op'] [b, c] = false := by with_unfolding_all rfl) :
    EM XR W X (p1 && (p2 && p3)) G (.Compare a [op, op'] [b, c] pos) (fz tBool) (kChain g g' fa fb fc) := tm_chain c1 c2 ha hb hc fun r r' ta tb tc o1 o2 h1 h2 h3 => pe_chain o1 o2 h1 h2 h3 hm
theorem tm_chain2 {δ : Type} {op op' : CmpOp} {T : Ty α} {U : Ty β} {V' : Ty δ} {g : α → β → Bool} {g' : β → δ → Bool} {c : Expr} {fa : S → Res (α × S)} {fb : S → Res (β × S)} {fc : S → Res (δ × S)} (c1 : Cmp X op T U g) (c2 : Cmp X op' U V' g') (ha : EM XR W X p1 G a (fz T) fa) (hb : EM XR W X p2 G b (fz U) fb) (hc : EM XR W X p3 G c (fz V') fc) (hm : lastMarks [op, op'] [b, c] = false := by with_unfolding_all rfl) (he : ∀ whole, isTrue (.Compare a [op, op'] [b, c] pos) X.env whole = (do let v ← whole; standAt (Expr.Compare a [op, op'] [b, c] pos).pos; holding [v] (truthy v)) := by intro _; rfl) :
    TM XR W X (p1 && (p2 && p3)) G (.Compare a [op, op'] [b, c] pos) (kChain g g' fa fb fc) := tm_val (em_chain2 c1 c2 ha hb hc hm) he
end
end TC
/-! len(set(..)) of texts and of tuples -/
namespace TC
open PySem PySem.Spec PyProof.Rows L2
section
variable {α : Type} [DecidableEq α]
theorem distinct_mem : ∀ (xs acc : List α) (x : α), x ∈ distinct xs acc ↔ x ∈ acc ∨ x ∈ xs
  | [], acc, x => by rw [distinct]; simp
  | y :: xs, acc, x => by
    rw [distinct]
    split
    · rename_i h
      rw [distinct_mem xs acc x, List.mem_cons]
      exact ⟨fun q => q.imp id .inr, fun q => q.elim .inl fun q => q.elim (fun q => .inl (q ▸ h)) .inr⟩
    · rw [distinct_mem xs _ x, List.mem_append, List.mem_singleton, List.mem_cons, or_assoc]
theorem ite_pp {β : Type} {p q : Prop} [Decidable p] [Decidable q] {a b : β} (h : p ↔ q) : (if p then a else b) = if q then a else b := by
  by_cases hp : p
  · rw [if_pos hp, if_pos (h.mp hp)]
  · rw [if_neg hp, if_neg fun z => hp (h.mpr z)]
theorem distinct_snoc : ∀ (xs acc : List α) (x : α), distinct (xs ++ [x]) acc = if x ∈ acc ∨ x ∈ xs then distinct xs acc else distinct xs acc ++ [x]
  | [], acc, x => by simp [distinct]
  | y :: xs, acc, x => by
    rw [List.cons_append, distinct, distinct]
    by_cases h : y ∈ acc
    · rw [if_pos h, if_pos h, distinct_snoc xs acc x]
      refine ite_pp ?_
      rw [List.mem_cons]
      exact ⟨fun q => q.imp id .inr, fun q => q.elim .inl fun q => q.elim (fun q => .inl (q ▸ h)) .inr⟩
    · rw [if_neg h, if_neg h, distinct_snoc xs _ x]
      refine ite_pp ?_
      rw [List.mem_append, List.mem_singleton, List.mem_cons, or_assoc]
end
section
variable {P : Program} {w : World} {Ky : Type} [DecidableEq Ky] [BEq Ky] [LawfulBEq Ky]
/-- the set holds exactly these -/
def Grown (knd : KeyKind P w Ky) (h : Heap) (b : Addr) (ks : List Ky) : Prop := h.SetOf knd b (fun y => decide (y ∈ ks)) (distinct ks []).length
theorem Grown.keep {knd : KeyKind P w Ky} {h h' : Heap} {b : Addr} {ks : List Ky} (g : Grown knd h b ks) (k : ∀ o, h.get? b = some o → h'.get? b = some o) : Grown knd h' b ks := by
  obtain ⟨o, es, ep, tb, q, rest⟩ := g
  exact ⟨o, es, ep, tb, k o q, rest⟩
theorem distinct_small (ks : List Ky) : (distinct ks []).length ≤ ks.length := by
  have := distinct_le ks []
  simpa using this
variable {A : Around} {R : Result → Shared → Prop} {I : Addr} {fp wr : List Addr} {G : Array GenState → Array GenState → Prop} {Pv : Nat → Value → Prop} {St : Nat → Shared → Prop}
theorem grow {knd : KeyKind P w Ky} {ks : List Ky} {b : Addr} (W : WalksS P w A.in1 I fp wr G ks.length Pv St) (out : b ∉ fp) (small : ks.length + 1 < scanBound)
    (kv : ∀ i v, Pv i v → ∃ y, ks[i]? = some y ∧ knd.is y v = true ∧ v.scannable = true) (rest i : Nat) (s : Shared) (hr : i + rest = ks.length) (st : St i s) (g : Grown knd s.heap b (ks.take i))
    (fin : ∀ s2, Moved (b :: wr) G s s2 → Grown knd s2.heap b ks → R (.ok (.ret .none)) s2) :
    codeAny (model P w) A (.builtin "set.update.loop" ⟨[.ref b, .ref I], []⟩) R s := by
  have ow : b ∉ wr := fun m => out (W.sub _ m)
  have up : ∀ c ∈ wr, c ∈ b :: wr := fun c m => .tail _ m
  induction rest generalizing i s with
  | zero =>
    have e : ks.take i = ks := List.take_of_length_le (by omega)
    rw [e] at g
    have hi : i = ks.length := by omega
    subst hi
    apply codeAny_builtin F.entry_set_update_loop
    rw [Around.under_plainId F.plain_set_update_loop]
    change wpAny _ A.in1 (pyNext (.ref I) >>= _) _ _ s
    apply wpAny_bind
    refine W.done s _ _ st fun s2 mv => ?_
    change wpAny _ A.in1 (ret Value.none) _ _ s2
    exact wpAny_pure (fin s2 (mv.mono up) (g.keep fun o q => mv.heap b o ow q))
  | succ rest more =>
    apply codeAny_builtin F.entry_set_update_loop
    rw [Around.under_plainId F.plain_set_update_loop]
    change wpAny _ A.in1 (pyNext (.ref I) >>= _) _ _ s
    apply wpAny_bind
    refine W.item i s _ _ (by omega) st fun v s2 pv st2 mv => ?_
    obtain ⟨y, ey, yv, sc⟩ := kv i v pv
    have g2 := g.keep fun o q => mv.heap b o ow q
    change wpAny _ A.in1 (holding [v] (setAdd b v) >>= _) _ _ s2
    apply wpAny_bind
    apply wpAny_holding
    unfold setAdd
    apply wpAny_holding
    apply wpAny_bind
    refine knd.pyHash yv ?_
    have l1 : (ks.take i).length ≤ ks.length := by rw [List.length_take]; omega
    have l2 := distinct_small (ks.take i)
    refine wpAny_setAddHashed_of (s := { s2 with toks := s2.toks + 1 }) yv sc g2 (by omega) fun h3 same g3 => ?_
    have g4 : Grown knd h3 b (ks.take (i + 1)) := by
      have et : ks.take (i + 1) = ks.take i ++ [y] := by rw [List.take_add_one, ey]; rfl
      unfold Grown
      rw [et, distinct_snoc]
      refine SetOf_congr g3 (fun z => by simp) ?_
      by_cases hm : y ∈ ks.take i
      · simp [hm]
      · simp [hm]
    apply wpAny_pure
    refine ⟨plainId_quiet F.plain_set_update_loop _, more (i + 1) _ (by omega) (W.frame _ s2 _ _ st2 (Nat.le_succ _) fun c mc o q => ?_) g4 fun s5 mv5 g5 => ?_⟩
    · have hne : c ≠ b := fun z => out (z ▸ mc)
      rw [same.2 c hne]; exact q
    · refine fin s5 (Moved.trans W.gtrans ((mv.mono up).then_heap (Nat.le_succ _) fun c o nc q => ?_) mv5) g5
      have hne : c ≠ b := fun z => nc (by rw [z]; exact .head _)
      rw [same.2 c hne]; exact q
end

/-- what a list and a tuple have alike for set(..) -/
structure Src (P : Program) (w : World) (l : Addr) (items : Array Value) (T : String) (O it : Obj) : Prop where
  ty : O.cls = .type T
  n1 : isSubtype (.type T) (.type "set") = pure false
  n2 : isSubtype (.type T) (.type "frozenset") = pure false
  n3 : (Value.type T == Value.type "dict") = false
  iter : ∀ {A : Around} {E : Value → Shared → Prop} {s : Shared} {Q : Value → Shared → Prop}, s.heap.get? l = some O → Q (.ref s.heap.objs.size) { s with heap := s.heap.push it } → wpAny (model P w) A (pyIter (.ref l)) Q E s
  walks : ∀ (A : Around) (h : Heap), A.handled = none → h.get? l = some O → l ≠ h.objs.size → ∃ St : Nat → Heap → Prop, Walks P w A h.objs.size [h.objs.size, l] [h.objs.size] items.size (fun i v => items[i]? = some v) St ∧ St 0 (h.push it)
theorem src_list {P : Program} {w : World} {l : Addr} {items : Array Value} {d : Option Addr} {n : Nat} {sl : Array (Option Value)} : Src P w l items "list" { cls := .type "list", dict := d, data := .seq items n, slots := sl } { cls := .type "list_iterator", data := .fields #[.ref l, .int 0 0] } where
  ty := rfl
  n1 := F.sub_list_set
  n2 := F.sub_list_frozenset
  n3 := by decide
  iter := fun ho q => wpAny_pyIter_list (items := items) ⟨_, ho, rfl, n, rfl⟩ q
  walks := fun A h hh ho ne => ⟨_, Walks.list hh _ l ne items, ⟨_, Heap.get?_push_size _ rfl, rfl, rfl⟩, _, Heap.get?_push_of_some _ ho, rfl, n, rfl⟩
theorem src_tuple {P : Program} {w : World} {l : Addr} {items : Array Value} {d : Option Addr} {n : Nat} {sl : Array (Option Value)} : Src P w l items "tuple" { cls := .type "tuple", dict := d, data := .seq items n, slots := sl } { cls := .type "tuple_iterator", data := .fields #[.ref l, .int 0 0] } where
  ty := rfl
  n1 := F.sub_tuple_set
  n2 := F.sub_tuple_frozenset
  n3 := by decide
  iter := fun ho q => wpAny_pyIter_tuple (items := items) ⟨_, ho, rfl, n, rfl⟩ q
  walks := fun A h hh ho ne => ⟨_, Walks.tuple hh _ l ne items, ⟨_, Heap.get?_push_size _ rfl, rfl, rfl⟩, _, Heap.get?_push_of_some _ ho, rfl, n, rfl⟩
abbrev set0 (b : Bool) : Obj := { cls := .type "set", dict := none, data := .set #[] 0 (.fresh 0 0 b) }
section
variable {P : Program} {w : World} {Ky : Type} [DecidableEq Ky] [BEq Ky] [LawfulBEq Ky] {A : Around} {E : Value → Shared → Prop} {s : Shared}
/-- what stands behind set.__init__ -/
def Filled (knd : KeyKind P w Ky) (s : Shared) (ks : List Ky) (s2 : Shared) : Prop := ∃ h2 tk, s2 = { s with heap := h2, toks := tk } ∧ Grown knd h2 s.heap.objs.size ks ∧ ∀ c o, c < s.heap.objs.size → s.heap.get? c = some o → h2.get? c = some o
theorem set_filled {knd : KeyKind P w Ky} {ks : List Ky} {l : Addr} {items : Array Value} {T : String} {O it : Obj} {b : Bool} (hh : A.handled = none) (src : Src P w l items T O it) (ho : s.heap.get? l = some O) (hn : items.size = ks.length) (small : ks.length + 1 < scanBound)
    (kv : ∀ (i : Nat) (v : Value), items[i]? = some v → ∃ y, ks[i]? = some y ∧ knd.is y v = true ∧ v.scannable = true) :
    codeAny (model P w) A (.call (.builtin "set.__init__") ⟨[.ref s.heap.objs.size, .ref l], []⟩) (wants (fun r s2 => r = .none ∧ Filled knd s ks s2) E) { s with heap := s.heap.push (set0 b) } := by
  have gb : (s.heap.push (set0 b)).get? s.heap.objs.size = some (set0 b) := Heap.get?_push_size _ rfl
  refine codeAny_call_builtin F.called_set.init.plain F.entry_set_init (check_set_init_1 ⟨_, gb, rfl⟩ ?_)
  have gl : (s.heap.push (set0 b)).get? l = some O := Heap.get?_push_of_some _ ho
  have lt : l < s.heap.objs.size := Heap.lt_size ho
  obtain ⟨k0, k1, k2, k3, k4, k5⟩ := src
  obtain ⟨oc, od, odt, osl⟩ := O
  simp only at k0
  subst k0
  unfold Builtin.«set.__init__» noKeywords Builtin.Frozenset.updateFrom
  generalize hPI : pyIter = PI
  wp_walk
  subst hPI
  refine k4 gl ?_
  apply wpAny_bind
  apply wpAny_runValue
  have sz : (s.heap.push (set0 b)).objs.size = s.heap.objs.size + 1 := Heap.size_push ..
  obtain ⟨St, W, st⟩ := k5 A.in1.in1 _ (by simp [hh]) gl (Nat.ne_of_lt (by rw [sz]; exact Nat.lt_succ_of_lt lt))
  rw [hn] at W
  refine grow (knd := knd) (ks := ks) W.toS ?_ small kv ks.length 0 _ (Nat.zero_add _) ?_ ?_ fun s3 mv g3 => ?_
  · rw [sz]
    intro m
    rcases List.mem_cons.mp m with e | m
    · exact absurd e (Nat.ne_of_lt (Nat.lt_succ_self _))
    · exact absurd (List.mem_singleton.mp m) (Nat.ne_of_gt lt)
  · exact st
  · have g0 := (setObjOf_fresh (knd := knd) b).setOf (Heap.get?_push_of_some it gb) (by unfold scanBound; omega)
    exact SetOf_congr g0 (fun _ => by simp) rfl
  · obtain ⟨h3, g, d, tk, os⟩ := s3
    have e1 := mv.gens
    have e2 := mv.drawn
    have e3 := mv.os
    dsimp only at e1 e2 e3
    subst e1 e2 e3
    show wpAny _ _ _ _ _ _
    apply wpAny_pure
    show wpAny _ _ (ret Value.none) _ _ _
    refine wpAny_pure ⟨rfl, h3, tk, rfl, g3, fun c o hc q => mv.heap c o ?_ (Heap.get?_push_of_some _ (Heap.get?_push_of_some _ q))⟩
    rw [sz]
    intro m
    rcases List.mem_cons.mp m with e | m
    · exact absurd e (Nat.ne_of_lt hc)
    · exact absurd (List.mem_singleton.mp m) (Nat.ne_of_lt (Nat.lt_succ_of_lt hc))
theorem set_call {knd : KeyKind P w Ky} {ks : List Ky} {l : Addr} {items : Array Value} {T : String} {O it : Obj} {Q : Value → Shared → Prop} (hh : A.handled = none) (src : Src P w l items T O it) (ho : s.heap.get? l = some O) (hn : items.size = ks.length) (small : ks.length + 1 < scanBound)
    (kv : ∀ (i : Nat) (v : Value), items[i]? = some v → ∃ y, ks[i]? = some y ∧ knd.is y v = true ∧ v.scannable = true) (fin : ∀ s2, Filled knd s ks s2 → Q (.ref s.heap.objs.size) s2) : wpAny (model P w) A (call (.type "set") [.ref l]) Q E s := by
  obtain ⟨mc, mr, mro⟩ := F.called_set.mro
  have a1 := F.called_set.made
  have a2 := F.called_set.sub
  have a3 := F.called_set.notType
  have a4 := F.called_set.canCreate
  have a5 := F.typeCall_set_1 (.ref l)
  apply wpAny_call
  apply codeAny_of_tree
  change wpAny _ _ (callAny (.type "set") _) _ _ _
  refine wpAny_pure ⟨Code.quiet_builtin _ (by decide +kernel), codeAny_builtin F.entry_type_call ?_⟩
  rw [Around.under_plain (weight_type_call_type "set" [.ref l] []) rfl]
  repeat (any_goals (first | assumption | wp_step))
  refine codeAny_mono (code_set_new_1 (.ref l) (E := E) (Q₁ := fun v s1 => ∃ b : Bool, v = .ref s.heap.objs.size ∧ s1 = { s with heap := s.heap.push (set0 b) }) fun b => ⟨b, rfl, rfl⟩) fun r s1 hr => ?_
  match r, hr with
  | .error e, hr => exact hr
  | .ok .next, hr => exact hr.elim
  | .ok .brk, hr => exact hr.elim
  | .ok .cont, hr => exact hr.elim
  | .ok (.ret v), hr =>
    obtain ⟨b, e1, e2⟩ := hr
    subst e1 e2
    have gb : (s.heap.push (set0 b)).get? s.heap.objs.size = some (set0 b) := Heap.get?_push_size _ rfl
    have ty : Shared.TypeIs { s with heap := s.heap.push (set0 b) } (.ref s.heap.objs.size) "set" := ⟨_, gb, rfl⟩
    have a6 := F.called_set.init.lookup
    have a7 := F.called_set.init.bind (.ref s.heap.objs.size)
    repeat (any_goals (first | assumption | wp_step))
    refine codeAny_mono (set_filled (knd := knd) (E := E) (by simp [hh]) src ho hn small kv) fun r2 s2 hr2 => ?_
    match r2, hr2 with
    | .error e, hr2 => exact hr2
    | .ok .next, hr2 => exact hr2.elim
    | .ok .brk, hr2 => exact hr2.elim
    | .ok .cont, hr2 => exact hr2.elim
    | .ok (.ret v2), hr2 =>
      obtain ⟨e3, fl⟩ := hr2
      subst e3
      repeat (any_goals (first | assumption | wp_step))
      exact fin s2 fl
end
end TC
/-! len(set(..)): the rules; single signs; texts walked, joined, told -/
namespace TC
open PySem PySem.Spec PyProof.Rows L2
section
variable {XR : XRel} {W : WX} {X : Cx} {S S' S2 L ρ : Type} {G : Ctx S} {G' : Ctx S'} {α β γ ι : Type} {e a b : Expr} {es : List Expr} {pos : Pos} {p p1 p2 p3 : Bool} {Rr : Rl ρ} {Gb : Ctx L}
theorem keys_at {Ky : Type} {good : Ky → Value → Prop} {enc : Ky → V} (he : ∀ y u, RelV (enc y) u → good y u) : ∀ {ks : List Ky} {us : List Value}, Vals (ks.map enc) us → ∀ (i : Nat) (v : Value), us[i]? = some v → ∃ y, ks[i]? = some y ∧ good y v
  | [], us, r, i, v, h => by cases r; simp at h
  | y :: ks, us, r, i, v, h => by
    cases r with
    | cons r1 r2 => cases i with
      | zero => simp at h; subst h; exact ⟨y, rfl, he _ _ r1⟩
      | succ i => exact keys_at he r2 i v (by simpa using h)
/-- a list or a tuple of keys -/
def KeySeq (K : PySem.W.Frag) {Ky : Type} (enc : Ky → V) (H : Hp) (x : V) (ks : List Ky) : Prop := ∃ l, x = .ref l ∧ (SqL K H l (ks.map enc) ∨ SqT K H l (ks.map enc))
theorem pe_lenSetG {Ky : Type} [DecidableEq Ky] [BEq Ky] [LawfulBEq Ky] (knd : KeyKind X.prog X.w Ky) (enc : Ky → V) (he : ∀ y u, RelV (enc y) u → knd.is y u = true ∧ u.scannable = true) {ta : TE} {q q2 q3 : Pos} (hc : X.calm = true) (hg : L2.Gl X "len") (hm : X.mg "len" = none) (hg2 : L2.Gl X "set") (hm2 : X.mg "set" = none) (ha : PE X a ta) (na : starEach [a] X.env = (false, eval a X.env) :: starEach [] X.env := by rfl) :
    PE X (.Call (.Name "len" q) [.Call (.Name "set" q2) [a] [] q3] [] pos) (fun σ H Q => ta σ H fun x H1 => ∃ ks : List Ky, KeySeq X.K enc H1 x ks ∧ ks.length ≤ 4000 ∧ Q (.int (nDiff ks)) H1) := by
  refine ⟨fun pins s σ H Q I h => Call_ (ld_blt I hg hm boot_len ?_)⟩
  refine PyProof.Rows.callWith_builtin1 (PyProof.Rows.args_cons (Call_ (ld_blt I hg2 hm2 boot_set ?_)) rfl) rfl rfl
  refine PyProof.Rows.callWith_type1 (PyProof.Rows.args_cons (thn (ha.run pins s σ H _ I h) fun v s1 hv => PyProof.Rows.args_nil ?_) na) na rfl
  obtain ⟨x, H1, I1, r1, ks, ⟨l, ex, hq⟩, hl, q1⟩ := hv
  subst ex
  cases r1
  have sm := distinct_small ks
  have small : ks.length + 1 < scanBound := by unfold scanBound; omega
  have go : ∀ (s2 : Shared), Filled knd s1 ks s2 → wpAny (model X.prog X.w) X.A (call (.builtin "len") [.ref s1.heap.objs.size]) (EP X pins σ Q) X.xe s2 := fun s2 ⟨h2, tk, e2, g2, keep⟩ => by
    subst e2
    obtain ⟨o, es, ep, t, ho, hex, hd, _, _, _, hf, hcnt⟩ := g2
    have I2 : Inv X pins σ H1 { s1 with heap := h2, toks := tk } := I1.kept fun b o e => keep b o (Heap.lt_size e) e
    exact call_len_set ho hex hd hf (by rw [hcnt]; omega) ⟨.int (nDiff ks), H1, I2.tok _, ⟨_, by rw [hcnt]; rfl⟩, q1⟩
  rcases hq with hq | hq
  · obtain ⟨us, r, ⟨⟨cls, dd, data, sl⟩, n, ho, hcl, hdn, hd⟩, hlen⟩ := I1.list hq
    simp only at hcl hd
    subst hcl hd
    exact set_call (knd := knd) (ks := ks) (I1.ok.hd hc) src_list ho (by rw [List.size_toArray, ← r.length, List.length_map]) small (fun i v hv => by
      obtain ⟨y, e, g⟩ := keys_at he r i v (by simpa using hv)
      exact ⟨y, e, g.1, g.2⟩) fun s2 fl => PyProof.Rows.args_nil (go s2 fl)
  · obtain ⟨us, r, ⟨⟨cls, dd, data, sl⟩, ho, hcl, n, hd⟩, hlen⟩ := I1.tuple hq
    simp only at hcl hd
    subst hcl hd
    exact set_call (knd := knd) (ks := ks) (I1.ok.hd hc) src_tuple ho (by rw [List.size_toArray, ← r.length, List.length_map]) small (fun i v hv => by
      obtain ⟨y, e, g⟩ := keys_at he r i v (by simpa using hv)
      exact ⟨y, e, g.1, g.2⟩) fun s2 fl => PyProof.Rows.args_nil (go s2 fl)
/-- scalars that a set can hold -/
structure SetSc (X : Cx) {α : Type} (T : Ty α) where
  Ky : Type
  d1 : DecidableEq Ky
  d2 : BEq Ky
  d3 : LawfulBEq Ky
  knd : KeyKind X.prog X.w Ky
  enc : Ky → V
  he : ∀ y u, RelV (enc y) u → knd.is y u = true ∧ u.scannable = true
  key : α → Ky
  inj : ∀ x y, key x = key y → x = y
  rel : ∀ {F v x}, T.R F v x → v = enc (key x)
def setInt : SetSc X tInt := ⟨Int, inferInstance, inferInstance, inferInstance, intKind _ _, V.int, fun y u r => by obtain ⟨t, rfl⟩ := r; exact ⟨intKind_is _ _ _ _, rfl⟩, id, fun _ _ h => h, fun h => h⟩
def setTxt : SetSc X tTxt := ⟨Str, inferInstance, inferInstance, inferInstance, PySem.strKind _ _, V.str, fun y u r => by obtain ⟨t, rfl⟩ := r; exact ⟨strKind_is _ _ _ _, rfl⟩, fun x => ⟨x.toArray⟩, fun x y h => by injection h with h; simpa using h, fun h => h.1⟩
theorem distinct_map {α β : Type} [DecidableEq α] [DecidableEq β] (f : α → β) (inj : ∀ x y, f x = f y → x = y) : ∀ (xs acc : List α), distinct (xs.map f) (acc.map f) = (distinct xs acc).map f
  | [], acc => rfl
  | x :: xs, acc => by
    rw [List.map_cons, distinct, distinct]
    have e : f x ∈ acc.map f ↔ x ∈ acc := ⟨fun m => by
      obtain ⟨y, hy, q⟩ := List.mem_map.mp m
      rw [← inj _ _ q]; exact hy, fun m => List.mem_map_of_mem m⟩
    by_cases h : x ∈ acc
    · rw [if_pos h, if_pos (e.mpr h), distinct_map f inj]
    · rw [if_neg h, if_neg (fun z => h (e.mp z)), ← distinct_map f inj xs (acc ++ [x]), List.map_append]; rfl
theorem nDiff_map {α β : Type} [DecidableEq α] [DecidableEq β] (f : α → β) (inj : ∀ x y, f x = f y → x = y) (xs : List α) : nDiff (xs.map f) = nDiff xs := by
  unfold nDiff
  have := distinct_map f inj xs []
  rw [List.map_nil] at this
  rw [this, List.length_map]
theorem All2.keys {F : Hp} {T : Ty α} {Ky : Type} {enc : Ky → V} {key : α → Ky} (rel : ∀ {F v x}, T.R F v x → v = enc (key x)) : ∀ {vs : List V} {xs : List α}, All2 (T.R F) vs xs → vs = (xs.map key).map enc
  | [], [], _ => rfl
  | v :: vs, x :: xs, h => by rw [List.map_cons, List.map_cons, ← rel h.1, ← All2.keys rel h.2]
  | [], _ :: _, h => h.elim
  | _ :: _, [], h => h.elim
section
variable [DecidableEq α]
theorem em_lenSetL {T : Ty α} (sc : SetSc X T) {f : S → Res (List α × S)} {q q2 q3 : Pos} (hc : X.calm = true) (hg : L2.Gl X "len") (hm : X.mg "len" = none) (hg2 : L2.Gl X "set") (hm2 : X.mg "set" = none) (ha : EM XR W X p G a (fz (tLst T)) f) (na : starEach [a] X.env = (false, eval a X.env) :: starEach [] X.env := by rfl) :
    EM XR W X p G (.Call (.Name "len" q) [.Call (.Name "set" q2) [a] [] q3] [] pos) (fz tInt) (kU mDiff f) := by
  obtain ⟨Ky, d1, d2, d3, knd, enc, he, key, inj, rel⟩ := sc
  obtain ⟨t, ht, h⟩ := ha
  refine ⟨_, pe_lenSetG knd enc he hc hg hm hg2 hm2 ht na, fun s F σ H A Q g k w => h s F σ H A _ g k (WPE.bind w fun x s1 v F1 H1 B A1 ⟨rB, a, vs, ev, q, r⟩ g1 e1 q1 w => ?_)⟩
  subst rB ev
  dsimp only at w
  unfold mDiff at w
  by_cases hl : x.length ≤ 4000
  · rw [if_pos hl] at w
    exact ⟨x.map key, ⟨a, rfl, .inl (by rw [← All2.keys rel r]; exact SqL.of (e1.holds.fz _ _ q))⟩, by rw [List.length_map]; exact hl, by
      rw [nDiff_map key inj]
      exact w _ F1 H1 [] A1 ⟨rfl, rfl⟩ g1 e1 q1⟩
  · rw [if_neg hl] at w; exact w.elim
theorem em_lenSetT {T : Ty α} (sc : SetSc X T) {f : S → Res (List α × S)} {q q2 q3 : Pos} (hc : X.calm = true) (hg : L2.Gl X "len") (hm : X.mg "len" = none) (hg2 : L2.Gl X "set") (hm2 : X.mg "set" = none) (ha : EM XR W X p G a (fz (tTup T)) f) (na : starEach [a] X.env = (false, eval a X.env) :: starEach [] X.env := by rfl) :
    EM XR W X p G (.Call (.Name "len" q) [.Call (.Name "set" q2) [a] [] q3] [] pos) (fz tInt) (kU mDiff f) := by
  obtain ⟨Ky, d1, d2, d3, knd, enc, he, key, inj, rel⟩ := sc
  obtain ⟨t, ht, h⟩ := ha
  refine ⟨_, pe_lenSetG knd enc he hc hg hm hg2 hm2 ht na, fun s F σ H A Q g k w => h s F σ H A _ g k (WPE.bind w fun x s1 v F1 H1 B A1 ⟨rB, a, vs, ev, q, r⟩ g1 e1 q1 w => ?_)⟩
  subst rB ev
  dsimp only at w
  unfold mDiff at w
  by_cases hl : x.length ≤ 4000
  · rw [if_pos hl] at w
    exact ⟨x.map key, ⟨a, rfl, .inr (by rw [← All2.keys rel r]; exact SqT.of (e1.holds.fz _ _ q))⟩, by rw [List.length_map]; exact hl, by
      rw [nDiff_map key inj]
      exact w _ F1 H1 [] A1 ⟨rfl, rfl⟩ g1 e1 q1⟩
  · rw [if_neg hl] at w; exact w.elim
end
end
end TC
/-! tuple * n for every small n -/
namespace TC
open PySem PySem.Spec PyProof.Rows L2
abbrev tupO (items : Array Value) (n : Nat) (d : Option Addr) (sl : Array (Option Value)) : Obj := { cls := .type "tuple", dict := d, data := .seq items n, slots := sl }
theorem tmul_same {l : Addr} {items : Array Value} {n : Nat} {d : Option Addr} {sl : Array (Option Value)} {k : Int} {u : Tok} (small : (decide (k < -(2 ^ 63)) || decide (k ≥ 2 ^ 63)) = false) (same : (items.isEmpty || k == 1) = true) :
    Meets (Builtin.«tuple.__mul__» ⟨[.ref l, .int k u], []⟩) (fun _ R s => s.heap.get? l = some (tupO items n d sl) ∧ R (.ok (.ret (Value.ref l))) s) :=
  .of_wp fun prog w A R s hyp => by
    obtain ⟨hp, g, dr, tk, os⟩ := s
    obtain ⟨hl, fin⟩ := hyp
    have fi := AutoSeq1.idx_int
    have ty : (Shared.mk hp g dr tk os).TypeIs (.ref l) "tuple" := ⟨_, hl, rfl⟩
    wp_walk using wpAny_loadPart' hl
    refine wpAny_ite_false (decide_eq_false (by rw [small]; exact Bool.false_ne_true)) ?_
    wp_walk using wpAny_loadPart' hl
    exact ⟨_, rfl, fin⟩
theorem tmul_none {l : Addr} {items : Array Value} {n : Nat} {d : Option Addr} {sl : Array (Option Value)} {k : Int} {u : Tok} (small : (decide (k < -(2 ^ 63)) || decide (k ≥ 2 ^ 63)) = false) (same : (items.isEmpty || k == 1) = false) (low : (decide (k ≤ 0) || items.isEmpty) = true) :
    Meets (Builtin.«tuple.__mul__» ⟨[.ref l, .int k u], []⟩) (fun _ R s => s.heap.get? l = some (tupO items n d sl) ∧ R (.ok (.ret (Value.ref s.heap.objs.size))) { s with heap := s.heap.push { cls := Value.type "tuple", data := Data.seq #[] }, toks := s.toks }) :=
  .of_wp fun prog w A R s hyp => by
    obtain ⟨hp, g, dr, tk, os⟩ := s
    obtain ⟨hl, fin⟩ := hyp
    have fi := AutoSeq1.idx_int
    wp_walk using wpAny_loadPart' hl
    refine wpAny_ite_false (decide_eq_false (by rw [small]; exact Bool.false_ne_true)) ?_
    wp_walk using wpAny_loadPart' hl
    exact ⟨_, rfl, fin⟩
section
variable {X : Cx}
def rRepA (K : PySem.W.Frag) : R2 := fun x y H Q => ∃ l k xs, x = .ref l ∧ y = .int k ∧ SqT K H l xs ∧ -1000 ≤ k ∧ k ≤ 1000 ∧ xs.length ≤ 1000 ∧ (xs = [] ∨ k = 1 → Q (.ref l) H) ∧ (¬ (xs = [] ∨ k = 1) → ∀ p, H p = none → Q (.ref p) (upd H p (.tup (List.replicate k.toNat xs).flatten)))
theorem op_repA : OpR X (binaryOp .Mult) (rRepA X.K) := by
  intro pins s σ H x y v u Q I rx ry h
  obtain ⟨l, k, xs, ex, ey, hT, b1, b2, hz, qs, qn⟩ := h
  by_cases big : xs ≠ [] ∧ 2 ≤ k
  · exact op_repT pins s σ H x y v u Q I rx ry ⟨l, k, xs, ex, ey, hT, big.1, big.2, b2, hz, qn fun z => z.elim big.1 fun z => by omega⟩
  subst ex ey
  cases rx
  obtain ⟨t, et⟩ := ry
  subst et
  obtain ⟨its, r, ⟨⟨cls, dd, data, sl⟩, ho, hc, n, hd⟩, hs⟩ := I.tuple hT
  simp only at hc hd
  subst hc hd
  have ei : its.toArray.isEmpty = decide (xs = []) := by
    cases r with
    | nil => rfl
    | cons _ _ => rfl
  have c0 : (decide (k < -(2 ^ 63)) || decide (k ≥ 2 ^ 63)) = false := by
    rw [decide_eq_false (by omega), decide_eq_false (by omega)] <;> rfl
  by_cases same : xs = [] ∨ k = 1
  · have c1 : (its.toArray.isEmpty || k == 1) = true := by
      rw [ei]
      rcases same with e | e
      · simp [e]
      · simp [e]
    refine wpAny_binaryOp_repeat_ref (T := "tuple") (U := "int") (by decide) ⟨_, ho, rfl⟩ (fun s' => typeIs_int s' k t) noFill_tuple_mul F.fills_int_mul F.slot_int_rmul repeat_tuple F.slot_int_index.lookup
      (call_meets F.slot_int_rmul (typeIs_int s k t) F.entry_int_rmul (F.args_int_rmul_2 _ _) (int_rmul_tuple k t l its.toArray n dd sl)
        ⟨ho, rfl, ⟨_, ho, rfl⟩, call_meets F.slot_tuple_mul ⟨_, ho, rfl⟩ F.entry_tuple_mul (F.args_tuple_mul_2 _ _) (tmul_same (n := n) (d := dd) (sl := sl) c0 c1) ⟨ho, ?_⟩⟩)
    exact ⟨.ref l, H, I, rfl, qs same⟩
  · have c1 : (its.toArray.isEmpty || k == 1) = false := by
      rw [not_or] at same
      rw [ei]
      simp [same.1, same.2]
    have low : k ≤ 0 := by
      rw [not_or] at same
      have e := same.2
      rcases (Decidable.em (k < 2)).imp id (fun z => (by omega : 2 ≤ k)) with z | z
      · omega
      · exact absurd ⟨same.1, z⟩ big
    have c2 : (decide (k ≤ 0) || its.toArray.isEmpty) = true := by rw [decide_eq_true low]; rfl
    refine wpAny_binaryOp_repeat_ref (T := "tuple") (U := "int") (by decide) ⟨_, ho, rfl⟩ (fun s' => typeIs_int s' k t) noFill_tuple_mul F.fills_int_mul F.slot_int_rmul repeat_tuple F.slot_int_index.lookup
      (call_meets F.slot_int_rmul (typeIs_int s k t) F.entry_int_rmul (F.args_int_rmul_2 _ _) (int_rmul_tuple k t l its.toArray n dd sl)
        ⟨ho, rfl, ⟨_, ho, rfl⟩, call_meets F.slot_tuple_mul ⟨_, ho, rfl⟩ F.entry_tuple_mul (F.args_tuple_mul_2 _ _) (tmul_none (n := n) (d := dd) (sl := sl) c0 c1 c2) ⟨ho, ?_⟩⟩)
    have e0 : (List.replicate k.toNat xs).flatten = [] := by
      have : k.toNat = 0 := by omega
      rw [this]; rfl
    rw [e0] at qn
    exact ⟨.ref s.heap.objs.size, _, I.laid (t' := s.toks) (o := .tup []) (fun b ob q => Heap.get?_push_of_some _ q) (Nat.le_refl _) ⟨Nat.zero_le _, _, .nil, IsTup.new _ _⟩, rfl, qn same _ (I.hok.fresh (Nat.le_refl _))⟩
end
section
variable {XR : XRel} {W : WX} {X : Cx} {S S' S2 L ρ : Type} {G : Ctx S} {G' : Ctx S'} {α β γ ι : Type} {e a b : Expr} {es : List Expr} {pos : Pos} {p p1 p2 p3 : Bool} {Rr : Rl ρ} {Gb : Ctx L}
def mRepT {α : Type} (xs : List α) (k : Int) : Res (List α) := if -1000 ≤ k ∧ k ≤ 1000 ∧ xs.length ≤ 1000 then .ok (List.replicate k.toNat xs).flatten else .bad
theorem em_repT {T : Ty α} {fa : S → Res (List α × S)} {fb : S → Res (Int × S)} (ha : EM XR W X p1 G a (fz (tTup T)) fa) (hb : EM XR W X p2 G b (fz tInt) fb) :
    EM XR W X (p1 && p2) G (.BinOp a .Mult b pos) (fz (tTup T)) (kB mRepT fa fb) :=
  em_op2 (T1 := tTup T) (T2 := tInt) (g := mRepT) (fun _ _ => pe_op op_repA) (fun F H v u x y Q ⟨a, vs, ev, q, r⟩ ru s h nb _ => by
    unfold mRepT at h nb
    by_cases hz : -1000 ≤ y ∧ y ≤ 1000 ∧ x.length ≤ 1000
    · rw [if_pos hz] at h
      refine ⟨a, y, vs, ev, ru, SqT.of (s _ _ q), hz.1, hz.2.1, by rw [r.length]; exact hz.2.2, fun same => ?_, fun _ p n => lay_tup (r.rep _) s n (h _ rfl)⟩
      have e : (List.replicate y.toNat x).flatten = x := by
        rcases same with e | e
        · have : x = [] := List.eq_nil_of_length_eq_zero (by rw [← r.length, e]; rfl)
          rw [this]
          generalize y.toNat = n
          induction n with
          | zero => rfl
          | succ n ih => rw [List.replicate_succ, List.flatten_cons, ih]; rfl
        · rw [e]
          show (List.replicate 1 x).flatten = x
          rw [List.replicate_succ, List.flatten_cons]; simp
      rw [e] at h
      exact h _ rfl _ F H [] ⟨rfl, a, vs, rfl, q, r⟩ (Ext.refl (holds_nil s))
    · rw [if_neg hz] at nb; exact absurd rfl nb) (fun x y ex => by unfold mRepT; exact ifne) ha hb
theorem is_mRepT {α : Type} {xs : List α} {k : Int} {E : Ex → Prop} {Q : List α → Prop} (h : -1000 ≤ k ∧ k ≤ 1000) (hl : xs.length ≤ 1000) (q : Q (List.replicate k.toNat xs).flatten) : (mRepT xs k).Is E Q := by
  unfold mRepT
  rw [if_pos ⟨h.1, h.2, hl⟩]
  exact isk q
end
end TC
/-! C(.., k = v, ..); single signs; texts walked, joined, cut, told; constants of the module -/
namespace TC
open PySem PySem.Spec PyProof.Rows L2
section
variable {XR : XRel} {W : WX} {X : Cx} {S S' S2 L ρ : Type} {G : Ctx S} {G' : Ctx S'} {α β γ ι : Type} {e a b : Expr} {es : List Expr} {kws : List Keyword} {pos : Pos} {p p1 p2 p3 : Bool} {Rr : Rl ρ} {Gb : Ctx L}

/-! ### arguments with keywords -/
/-- values of keywords -/
def AK (XR : XRel) (W : WX) (X : Cx) {S P : Type} (p : Bool) (G : Ctx S) (kws : List Keyword) (m : Nat) (Z : RA P) (f : S → Res (P × S)) : Prop :=
  ∃ t, PK X kws t ∧ ∀ s F σ H A Q, G.P s F σ A → Holds F H A → WPA XR W p σ Z G F H A s Q (f s) → t σ H fun zs H2 => zs.length = m ∧ Q zs H2
/-- positional ones ahead -/
def AMK (XR : XRel) (W : WX) (X : Cx) {S P : Type} (p : Bool) (G : Ctx S) (es : List Expr) (kws : List Keyword) (n m : Nat) (Z : RA P) (f : S → Res (P × S)) : Prop :=
  ∃ t tk, PA X es t ∧ PK X kws tk ∧ ∀ s F σ H A Q, G.P s F σ A → Holds F H A → WPA XR W p σ Z G F H A s Q (f s) → t σ H fun vs H1 => tk σ H1 fun zs H2 => vs.length = n ∧ zs.length = m ∧ Q (vs ++ zs) H2
theorem ak_nil : AK XR W X true G [] 0 anil kU0 := ⟨_, pk_nil, fun s F σ H A Q g k h => ⟨rfl, h _ F H [] A ⟨rfl, rfl⟩ g (Ext.refl k) fun _ => ⟨rfl, rfl⟩⟩⟩
/-- one value ahead of the others -/
theorem wpa_ahead {P : Type} {R : Rl α} {Z : RA P} {f : S → Res (α × S)} {g : S → Res (P × S)} {te : TE} {σ : St} {Q : List V → Hp → Prop} {s : S} {F H : Hp} {A : Ow} (h : ∀ s F σ H A Q, G.P s F σ A → Holds F H A → WPE XR W p1 σ R G F H A s Q (f s) → te σ H Q) (gg : G.P s F σ A) (k : Holds F H A)
    (w : WPA XR W (p1 && p2) σ (acons R Z) G F H A s Q (kPair f g s)) {K2 : V → Hp → Prop} (hk : ∀ v s1 F1 H1 A1, G.P s1 F1 σ A1 → Holds F1 H1 A1 → WPA XR W p2 σ Z G F1 H1 A1 s1 (fun vs H2 => Q (v :: vs) H2) (g s1) → K2 v H1) : te σ H K2 := by
  refine h s F σ H A _ gg k (WPE.bindA w fun x s1 v F1 H1 B A1 r1 g1 e1 q1 w => ?_)
  have hB : Holds F1 H1 (A1 ++ B) := e1.holds.perm List.perm_append_comm
  refine hk v s1 F1 H1 A1 g1 (hB.sub (List.sublist_append_left _ _)) ?_
  cases q : g s1 with
  | bad => rw [q] at w; exact w
  | er ex => rw [q] at w; exact fun cls oe F' H' A' h1 h2 => w cls oe F' H' A' h1 ((e1.sub (List.sublist_append_right _ _)).trans h2)
  | ok ys =>
    obtain ⟨y, s2⟩ := ys
    rw [q] at w
    intro vs F2 H2 B2 A2 r2 g2 e2 q2
    have e3 : Ext F1 H1 (B ++ A1) F2 H2 ((B ++ B2) ++ A2) := by
      have z := Ext.frame hB e2
      refine (z.permL List.perm_append_comm).perm ?_
      rw [List.append_assoc B B2 A2]
      exact List.perm_append_comm
    exact w (v :: vs) F2 H2 (B ++ B2) A2 ⟨v, vs, B, B2, rfl, rfl, R.mono r1 e2.fz, r2⟩ g2 (e1.trans e3) fun hp => by
      simp only [Bool.and_eq_true] at hp
      exact ⟨(q2 hp.2).1.trans (q1 hp.1).1, (q2 hp.2).2.trans (q1 hp.1).2⟩
theorem ak_cons {P : Type} {m : Nat} {nm : Option Str} {kpos : Pos} {R : Rl α} {Z : RA P} {f : S → Res (α × S)} {g : S → Res (P × S)} (ha : EM XR W X p1 G e R f) (hz : AK XR W X p2 G kws m Z g) : AK XR W X (p1 && p2) G (⟨nm, e, kpos⟩ :: kws) (m + 1) (acons R Z) (kPair f g) := by
  obtain ⟨t, ht, h⟩ := ha
  obtain ⟨u, hu, h'⟩ := hz
  refine ⟨_, pk_cons ht hu, fun s F σ H A Q gg k w => wpa_ahead h gg k w fun v s1 F1 H1 A1 g1 k1 w1 => ?_⟩
  have := h' s1 F1 σ H1 A1 (fun vs H2 => Q (v :: vs) H2) g1 k1 w1
  have eq : (fun (zs : List V) (H2 : Hp) => zs.length = m ∧ Q (v :: zs) H2) = fun zs H2 => (v :: zs).length = m + 1 ∧ Q (v :: zs) H2 := by
    funext zs H2
    simp
  rw [eq] at this
  exact this
theorem amk_base {P : Type} {m : Nat} {Z : RA P} {f : S → Res (P × S)} (hz : AK XR W X p G kws m Z f) : AMK XR W X p G [] kws 0 m Z f := by
  obtain ⟨u, hu, h⟩ := hz
  refine ⟨_, u, pa_nil, hu, fun s F σ H A Q gg k w => ?_⟩
  have := h s F σ H A Q gg k w
  have eq : (fun (zs : List V) (H2 : Hp) => zs.length = m ∧ Q zs H2) = fun zs H2 => ([] : List V).length = 0 ∧ zs.length = m ∧ Q ([] ++ zs) H2 := by
    funext zs H2
    simp
  rw [eq] at this
  exact this
theorem amk_cons {P : Type} {n m : Nat} {R : Rl α} {Z : RA P} {f : S → Res (α × S)} {g : S → Res (P × S)} (ha : EM XR W X p1 G e R f) (hz : AMK XR W X p2 G es kws n m Z g) (hs : starEach (e :: es) X.env = (false, eval e X.env) :: starEach es X.env := by rfl) : AMK XR W X (p1 && p2) G (e :: es) kws (n + 1) m (acons R Z) (kPair f g) := by
  obtain ⟨t, ht, h⟩ := ha
  obtain ⟨u, uk, hu, huk, h'⟩ := hz
  refine ⟨_, uk, pa_cons ht hu hs, huk, fun s F σ H A Q gg k w => wpa_ahead h gg k w fun v s1 F1 H1 A1 g1 k1 w1 => ?_⟩
  have := h' s1 F1 σ H1 A1 (fun vs H2 => Q (v :: vs) H2) g1 k1 w1
  have eq : (fun (vs : List V) (H1 : Hp) => uk σ H1 fun zs H2 => vs.length = n ∧ zs.length = m ∧ Q (v :: (vs ++ zs)) H2) = fun vs H1 => uk σ H1 fun zs H2 => (v :: vs).length = n + 1 ∧ zs.length = m ∧ Q ((v :: vs) ++ zs) H2 := by
    funext vs H1
    simp
  rw [eq] at this
  exact this
/-! ### C(.., k = v, ..) -/
def tMkK (C : Addr) (n m : Nat) (sp : Sp) (E : St → XK) (t tk : TA) : TE := fun σ H Q => t σ H fun vs H1 => tk σ H1 fun zs H2 => vs.length = n ∧ zs.length = m ∧ ∀ o d, H2 o = none → H2 d = none → d ≠ o → sp (.ref o :: (vs ++ zs)) (upd (upd H2 d (.own o)) o (.ins C d [])) (fun v H3 => v = .non ∧ Q (.ref o) H3) (E σ)
theorem pe_mkK {k n : Nat} {C f : Addr} {fd : FuncData} {ps ks : List Str} {sp : Sp} {E : St → XK} {x : Str} {pp : Pos} {t tk : TA} (M : Mk X.K C f) (Fk : FnOk X.prog X.w X.K X.mg X.base (L2.CX X.prog X.w) k f fd ps sp) (hr : Room (k + 1) X.A) (hg : L2.Gl X x) (hm : X.mg x = some (.ref C))
    (hb : KBn X.K fd ps (n + 1) ks (fun us ws => us ++ ws) (fun vs zs => vs ++ zs)) (tkx : Takes X (fun cls d σ H => E σ cls d H)) (ha : PA X (e :: es) t) (hkw : PK X kws tk)
    (hall : (backToKw pos (keywordEach kws X.env)).all (·.1.isSome) = true := by rfl) (hks : (backToKw pos (keywordEach kws X.env)).filterMap (·.1) = ks := by rfl) (hdb : (x == ("__debug__" : Str)) = false := by decide)
    (he : starEach (e :: es) X.env = (false, eval e X.env) :: starEach es X.env := by rfl) (hpl : ((backTo pos (starEach (e :: es) X.env)).any (·.1) || (backToKw pos (keywordEach kws X.env)).any (·.1.isNone)) = false := by rfl) :
    PE X (.Call (.Name x pp) (e :: es) kws pos) (tMkK C n ks.length sp E t tk) := by
  refine ⟨fun pins s σ H Q I h => wpAny_Call_Name_kw (ld_glob I hg hm ?_ hdb)⟩
  refine PySem.W.callWith_KW (h₀ := X.base) I.ok.mod.kin M.kp hall (thn (ha.run pos pins s σ H _ I h) fun us s0 ⟨vs, H0, I0, r0, q0⟩ => ?_) hpl he
  refine thn (hkw.run pos pins s0 σ H0 _ I0 q0) fun ws s1 ⟨zs, H1, I1, rz, l1, l2, q⟩ => ⟨I1.kIn, ?_⟩
  rw [hks]
  have new := Inv.made (C := C) I1
  have q0 := q _ _ (I1.hok.fresh (Nat.le_succ s1.heap.objs.size)) (I1.hok.fresh (Nat.le_refl _)) (Nat.ne_of_lt (Nat.lt_succ_self _))
  have rv : Vals (V.ref (s1.heap.objs.size + 1) :: vs) (Value.ref (s1.heap.objs.size + 1) :: us) := .cons rfl r0
  have n1 : (Value.ref (s1.heap.objs.size + 1) :: us).length = n + 1 := by rw [← rv.length, List.length_cons, l1]
  have bnd := hb.to _ (Value.ref (s1.heap.objs.size + 1) :: us) ws new.kIn n1 (by rw [← rz.length, l2])
  have rb := hb.rel rv rz
  refine wpAny_call (make_map (f := f) I1.kIn M.makes M.init (beq_iff_eq.mp M.fn) (codeAny_mono (Fk.run _ X.stack _ _ ⟨Value.ref (s1.heap.objs.size + 1) :: us, ks.zip ws⟩ _ _ _ (E σ) (hr.make C us (ks.zip ws)) (new.env0.make C us (ks.zip ws)) bnd rb q0) fun o s2 ho => ?_))
  rcases o with er | fl
  · exact tkx _ _ (XE.of_call new (fun _ _ _ z => z) ho)
  · rcases fl with _ | _ | _ | u
    all_goals first | exact ho.elim | skip
    obtain ⟨v, H2, I2, r2, ev, q2⟩ := new.after ho
    subst ev
    exact ⟨r2, .ref (s1.heap.objs.size + 1), H2, I2, rfl, q2⟩
theorem em_makeK {fr : FR α} {C fi : Addr} {k n : Nat} {fd : FuncData} {ps ks : List Str} {x : Str} {pp : Pos} {Z : RA β} {m : Unit × β → Res α} {fargs : S → Res (β × S)} (tk : Takes X W) (M : Mk X.K C fi) (Fk : FnOk X.prog X.w X.K X.mg X.base (L2.CX X.prog X.w) k fi fd ps (spI XR C fr Z m)) (hr : Room (k + 1) X.A) (hg : L2.Gl X x) (hm : X.mg x = some (.ref C))
    (hb : KBn X.K fd ps (n + 1) ks (fun us ws => us ++ ws) (fun vs zs => vs ++ zs)) (ha : AMK XR W X p G (e :: es) kws n ks.length Z fargs)
    (hall : (backToKw pos (keywordEach kws X.env)).all (·.1.isSome) = true := by rfl) (hks : (backToKw pos (keywordEach kws X.env)).filterMap (·.1) = ks := by rfl) (hdb : (x == ("__debug__" : Str)) = false := by decide)
    (he : starEach (e :: es) X.env = (false, eval e X.env) :: starEach es X.env := by rfl) (hpl : ((backTo pos (starEach (e :: es) X.env)).any (·.1) || (backToKw pos (keywordEach kws X.env)).any (·.1.isNone)) = false := by rfl) :
    EM XR W X p G (.Call (.Name x pp) (e :: es) kws pos) (fz (tIns C fr)) (kMake m fargs) := by
  obtain ⟨t, tkk, ht, htk, h⟩ := ha
  refine ⟨_, pe_mkK (E := fun σ cls d H => W cls d σ H) M Fk hr hg hm hb tk ht htk hall hks hdb he hpl, fun s F σ H A Q g kk w => ?_⟩
  refine h s F σ H A (fun vs H1 => ∀ o d, H1 o = none → H1 d = none → d ≠ o → spI XR C fr Z m (.ref o :: vs) (upd (upd H1 d (.own o)) o (.ins C d [])) (fun v H3 => v = .non ∧ Q (.ref o) H3) (fun cls d H => W cls d σ H)) g kk (WPA.bindE w fun y s1 vs F1 H1 B A1 r1 g1 e1 q1 w => ?_)
  intro ax dx hx hdx ne
  have n2 : upd H1 dx (.own ax) ax = none := by rw [upd_ne ne.symm]; exact hx
  have k1 : Ext F1 H1 (B ++ A1) F1 (upd H1 dx (.own ax)) (B ++ A1) := (Ext.newO e1.holds hdx).sub (List.sublist_cons_self _ _)
  have k2 := k1.trans (Ext.newO (o := .ins C dx []) k1.holds n2)
  refine ⟨ax, ((), y), F1, (ax, .ins C dx []) :: B, ⟨.ref ax, vs, [(ax, .ins C dx [])], B, rfl, rfl, ⟨rfl, dx, [], rfl, rfl⟩, r1⟩, k2.holds.sub (List.Sublist.cons_cons _ (List.sublist_append_left _ _)), ?_⟩
  cases q : m ((), y) with
  | bad => dsimp only at w; rw [q] at w; exact w.elim
  | er ex =>
    dsimp only at w
    rw [q] at w
    exact fun cls oe F' H' A' h1 h2 => w cls oe F' H' (A' ++ A1) h1 ((e1.trans k2).trans (Ext.frame (A := (ax, .ins C dx []) :: B) (B := A1) k2.holds h2))
  | ok z =>
    dsimp only at w
    rw [q] at w
    rintro v F' H' A' ⟨rfl, dx', fs', rfl, rz⟩ h2
    refine ⟨rfl, ?_⟩
    have fr1 := Ext.frame (A := (ax, .ins C dx []) :: B) (B := A1) k2.holds h2
    have fz1 : Ext F' H' ((ax, .ins C dx' fs') :: A1) (upd F' ax (.ins C dx' fs')) H' A1 := Ext.freeze fr1.holds
    exact w _ _ H' [] A1 ⟨rfl, ax, dx', fs', rfl, upd_same, fr.mono rz fz1.fz⟩ (G.mono (G.mono g1 h2.fz) fz1.fz) (((e1.trans k2).trans fr1).trans fz1) q1
structure IniAtK (K : PySem.W.Frag) (mg : Str → Option Value) (c q : Str) (st : Stmt) (ps : List Str) (n : Nat) (ks : List Str) (C f : Addr) (fd : FuncData) : Prop where
  F : Fun K "__init__" q st f fd
  b : KBn K fd ps (n + 1) ks (fun us ws => us ++ ws) (fun vs zs => vs ++ zs)
  cl : Cls K C
  mkr : Mk K C f
  g : mg c = some (.ref C)

/-! ### single signs -/
def tSgn : Ty Nat := ⟨fun _ v x => v = .str ⟨#[x]⟩ ∧ x < 0x110000, fun h _ => h⟩
theorem nnSgn : ∀ F v x, tSgn.R F v x → v ≠ .non := fun F v x e z => by rw [e.1] at z; cases z
theorem em_sgnT {f : S → Res (Nat × S)} (h : EM XR W X p G e (fz tSgn) f) : EM XR W X p G e (fz tTxt) (kF (fun c => [c]) f) := em_cast (R := fz tSgn) (R' := fz tTxt) (fun c => [c]) (fun F v x A r => ⟨r.1, r.2.1, fun c hc => by rw [List.mem_singleton.mp hc]; exact r.2.2⟩) h
def mIxS (x : List Nat) (i : Int) : Res Nat := if x.length ≤ 1000000 then mIx x i else .bad
theorem em_ixS (hs : PlainIx b) {fa : S → Res (List Nat × S)} {fb : S → Res (Int × S)} (ha : EM XR W X p1 G a (fz tTxt) fa) (hb : EM XR W X p2 G b (fz tInt) fb) : EM XR W X (p1 && p2) G (.Subscript a b pos) (fz tSgn) (kB mIxS fa fb) :=
  em_op2 (T1 := tTxt) (T2 := tInt) (g := mIxS) (fun _ _ u v => pe_ix ix_str u v hs) (fun F H v u x y Q rv ru s h nb _ => by
    unfold mIxS mIx at h nb
    by_cases hz : x.length ≤ 1000000
    · rw [if_pos hz] at h nb
      cases e : atI x y with
      | none => rw [e] at nb; exact absurd rfl nb
      | some c =>
        rw [e] at h
        obtain ⟨j, h1, h2, _⟩ := atI_get e
        have hc : c ∈ x := List.mem_of_getElem? h2
        exact ⟨⟨x.toArray⟩, y, c, rv.1, ru, Nat.le_trans (by show x.toArray.size ≤ _; rw [List.size_toArray]; exact hz) big_line, e, h c rfl _ F H [] ⟨rfl, rfl, rv.2 c hc⟩ (Ext.refl (holds_nil s))⟩
    · rw [if_neg hz] at nb; exact absurd rfl nb) (fun x y ex => by
    unfold mIxS
    by_cases hz : x.length ≤ 1000000
    · rw [if_pos hz]; exact mIx_ne
    · rw [if_neg hz]; exact badne) ha hb
theorem signs_all {F : Hp} : ∀ {x : List Nat}, (∀ c ∈ x, c < 0x110000) → All2 (tSgn.R F) (x.map fun c => V.str ⟨#[c]⟩) x
  | [], _ => trivial
  | c :: x, h => ⟨⟨rfl, h c List.mem_cons_self⟩, signs_all fun d hd => h d (List.mem_cons_of_mem _ hd)⟩
theorem im_txt {tgt : Expr} {f : S → Res (List Nat × S)} (h : EM XR W X p G e (fz tTxt) f) : IM XR W X G tgt e tSgn f := by
  obtain ⟨t, ht, h⟩ := h
  refine ⟨_, pi_str ht, fun s F σ H A Q g k w => h s F σ H A _ g k ?_⟩
  cases q : f s with
  | bad => rw [q] at w; exact w
  | er ex => rw [q] at w; exact w
  | ok xs =>
    obtain ⟨x, s1⟩ := xs
    rw [q] at w
    rintro v F1 H1 B A1 ⟨rB, ev, hc⟩ g1 e1 q1
    subst rB ev
    refine ⟨⟨x.toArray⟩, rfl, w _ F1 H1 A1 ⟨_, signs_all hc, fun H2 s2 => ⟨fun i hi => ?_, fun i u H3 hy _ => ?_, ?_⟩⟩ g1 e1⟩
    · show i < x.toArray.size
      rw [List.length_map] at hi
      rwa [List.size_toArray]
    · obtain ⟨e3, c, hcx, eu⟩ := hy
      refine ⟨e3, ?_⟩
      have hcx : x.toArray[i]? = some c := hcx
      rw [List.getElem?_toArray] at hcx
      rw [List.getElem?_map, hcx, eu]; rfl
    · show x.toArray.size ≤ (x.map _).length
      rw [List.size_toArray, List.length_map]; exact Nat.le_refl _
def mInS (c : Nat) (x : List Nat) : Bool := decide (c ∈ x)
def mNinS (c : Nat) (x : List Nat) : Bool := !decide (c ∈ x)
theorem cm_inS : Cmp X .In tSgn tTxt mInS := ⟨_, op_in_sign, fun F H v u x y Q rv ru s h _ _ => ⟨x, ⟨y.toArray⟩, rv.1, ru.1, h _ rfl _ F H [] ⟨rfl, rfl⟩ (Ext.refl (holds_nil s))⟩⟩
theorem cm_ninS : Cmp X .NotIn tSgn tTxt mNinS := ⟨_, op_notIn_sign, fun F H v u x y Q rv ru s h _ _ => ⟨x, ⟨y.toArray⟩, rv.1, ru.1, h _ rfl _ F H [] ⟨rfl, rfl⟩ (Ext.refl (holds_nil s))⟩⟩
theorem cm_inK {K : PySem.W.Frag} [DecidableEq α] {T : Ty α} (hK : X.K = K) (c : Scal T) : Cmp X .In T (tKTup K T) mIn := ⟨_, op_in_seq, fun F H v u x y Q rv ru s h _ _ => by
  subst hK
  obtain ⟨a, vs, rfl, q, r⟩ := ru
  obtain ⟨e1, e2⟩ := inV_of c (x := x) r
  rw [c.is F v x rv]
  exact ⟨a, vs, rfl, .inr (Same.seqT s q), c.flat x, e2, flat_res (s := s) h e1⟩⟩
/-! ### texts joined, told, cut -/
theorem em_addS {fa fb : S → Res (List Nat × S)} (ha : EM XR W X p1 G a (fz tTxt) fa) (hb : EM XR W X p2 G b (fz tTxt) fb) : EM XR W X (p1 && p2) G (.BinOp a .Add b pos) (fz tTxt) (kB mCat fa fb) :=
  em_op2 (T1 := tTxt) (T2 := tTxt) (g := mCat) (fun _ _ => pe_op op_add_str) (fun F H v u x y Q rv ru s h nb _ => by
    unfold mCat at h nb
    by_cases hz : x.length + y.length ≤ sizeLine
    · rw [if_pos hz] at h
      refine ⟨⟨x.toArray⟩, ⟨y.toArray⟩, rv.1, ru.1, by show x.toArray.size + y.toArray.size ≤ _; rw [List.size_toArray, List.size_toArray]; exact hz, h _ rfl _ F H [] ⟨rfl, ?_, fun c hc => ?_⟩ (Ext.refl (holds_nil s))⟩
      · exact congrArg V.str (TL.ext_tl (by rw [TL.tl_append]))
      · rcases List.mem_append.mp hc with q | q
        · exact rv.2 c q
        · exact ru.2 c q
    · rw [if_neg hz] at nb; exact absurd rfl nb) (fun x y ex => by unfold mCat; exact ifne) ha hb
def mStr (i : Int) : Res (List Nat) := if 0 ≤ i ∧ i ≤ 1000000 then .ok (TL.numL i.toNat) else .bad
theorem num_signs (n : Nat) : ∀ c ∈ TL.numL n, c < 0x110000 := fun c hc => by
  unfold TL.numL at hc
  obtain ⟨d, _, rfl⟩ := List.mem_map.mp hc
  have := d.valid
  have h2 : d.toNat = d.val.toNat := rfl
  rcases this with q | q
  · rw [h2]; exact Nat.lt_trans q (by decide)
  · rw [h2]; exact q.2
theorem em_strI {fa : S → Res (Int × S)} {pp : Pos} (hg : L2.Gl X "str") (hm : X.mg "str" = none) (ha : EM XR W X p G a (fz tInt) fa) (hs : starEach [a] X.env = [(false, eval a X.env)] := by rfl) : EM XR W X p G (.Call (.Name "str" pp) [a] [] pos) (fz tTxt) (kU mStr fa) :=
  em_callTy (T := tInt) (g := mStr) call_str_int hg hm (by decide +kernel) (fun F H v x Q rv s h nb _ => by
    unfold mStr at h nb
    by_cases hz : 0 ≤ x ∧ x ≤ 1000000
    · rw [if_pos hz] at h
      refine ⟨x, by rw [show v = .int x from rv], ?_, h _ rfl _ F H [] ⟨rfl, ?_, num_signs _⟩ (Ext.refl (holds_nil s))⟩
      · have : x.natAbs ≤ 1000000 := by omega
        by_cases h0 : x.natAbs = 0
        · rw [h0]; decide
        · have h1 : x.natAbs.log2 < 21 := (Nat.log2_lt h0).mpr (by omega)
          omega
      · obtain ⟨n, rfl⟩ := Int.eq_ofNat_of_zero_le hz.1
        refine congrArg V.str (TL.ext_tl ?_)
        exact TL.tl_num n
    · rw [if_neg hz] at nb; exact absurd rfl nb) (fun x ex => by
    unfold mStr
    split
    · exact okne
    · exact badne) ha hs
def mCutS (x : List Nat) (lo hi : Option Int) : Res (List Nat) := if x.length ≤ 1000000 then .ok (mCut x lo hi) else .bad
/-! ### constants of the module -/
theorem em_globS {x : Str} {c : Str} {l : List Nat} (hg : L2.Gl X x) (hm : ∃ t, X.mg x = some (.str c t)) (e : c.cps.toList = l) (hl : (l.all fun c => decide (c < 0x110000)) = true) (hd : (x == ("__debug__" : Str)) = false := by decide) : EM XR W X true G (.Name x pos) (fz tTxt) (kC l) := by
  obtain ⟨t, hm⟩ := hm
  exact em_glob (v := .str c) hg hm ⟨t, rfl⟩ (fun _ => ⟨by subst e; rfl, fun c hc => by simpa using List.all_eq_true.mp hl c hc⟩) hd
/-- a tuple of the module: what stands there -/
def KTupAt (K : PySem.W.Frag) (mg : Str → Option Value) (x : Str) (vs : List V) : Prop := ∃ (a : Addr) (o : Obj) (its : Array Value) (n : Nat), mg x = some (.ref a) ∧ K.lookup a = some o ∧ o.cls = .type "tuple" ∧ o.data = .seq its n ∧ its.size ≤ sizeLine ∧ Vals vs its.toList
theorem em_globK {T : Ty α} {x : Str} {vs : List V} {l : List α} (hg : L2.Gl X x) (hm : KTupAt X.K X.mg x vs) (hl : ∀ F, All2 (T.R F) vs l) (hd : (x == ("__debug__" : Str)) = false := by decide) : EM XR W X true G (.Name x pos) (fz (tKTup X.K T)) (kC l) := by
  obtain ⟨ad, o, its, n, h1, h2, h3, h4, h5, h6⟩ := hm
  exact em_glob (v := .ref ad) hg h1 rfl (fun F => ⟨ad, vs, rfl, .inr ⟨o, its, n, h2, h3, h4, h5, h6⟩, hl F⟩) hd
end
section
variable {XR : XRel} {W : WX} {X : Cx} {S S' S2 L ρ : Type} {G : Ctx S} {G' : Ctx S'} {G2 : Ctx S2} {α β γ ι : Type} {e a b : Expr} {es : List Expr} {kws : List Keyword} {pos : Pos} {p p1 p2 p3 : Bool} {Rr : Rl ρ} {Gb : Ctx L}
/-- a < b < c as a test -/
theorem tm_chainT {op op' : CmpOp} {T : Ty α} {U : Ty β} {V' : Ty γ} {g : α → β → Bool} {g' : β → γ → Bool} {fa : S → Res (α × S)} {fb : S → Res (β × S)} {c : Expr} {fc : S → Res (γ × S)} (c1 : Cmp X op T U g) (c2 : Cmp X op' U V' g') 
    (ha : EM XR W X p1 G a (fz T) fa) (hb : EM XR W X p2 G b (fz U) fb) (hc : EM XR W X p3 G c (fz V') fc) 
    (hm : lastMarks [op, op'] [b, c] = false := by with_unfolding_all rfl) :
    TM XR W X (p1 && (p2 && p3)) G (.Compare a [op, op'] [b, c] pos) (kChain g g' fa fb fc) := by
  obtain ⟨r, h1, ho⟩ := c1.ex
  obtain ⟨r', h1', ho'⟩ := c2.ex
  obtain ⟨ta, hta, ha⟩ := ha
  obtain ⟨tb, htb, hb⟩ := hb
  obtain ⟨tc, htc, hc⟩ := hc
  refine ⟨_, pt_chain h1 h1' hta htb htc hm, fun s F σ H A Q gg k w => ha s F σ H A _ gg k (WPE.bindT w fun x s1 v F1 H1 B A1 ⟨rB, r1⟩ g1 e1 q1 w => ?_)⟩
  subst rB
  refine hb s1 F1 σ H1 A1 _ g1 e1.holds ?_
  cases q : fb s1 with
  | bad => rw [q] at w; exact w
  | er ex => rw [q] at w; exact fun cls oe F' H' A' h1 h2 => w cls oe F' H' A' h1 (e1.trans h2)
  | ok ys =>
    obtain ⟨y, s2⟩ := ys
    rw [q] at w
    rintro u F2 H2 B A2 ⟨rB, r2⟩ g2 e2 q2
    subst rB
    refine ho F2 H2 v u x y _ (T.mono r1 e2.fz) r2 e2.holds.fz (fun z ez w' F3 H3 B hr ex => ?_) (by intro h; cases h) (fun _ => okne)
    obtain ⟨rB, rw'⟩ := hr
    cases ez
    subst rB
    have e3 := e2.trans (ext_nil e2.holds ex)
    refine ⟨_, rw', ?_⟩
    simp only [Res.bind_ok] at w
    by_cases hg : g x y = true
    · rw [if_pos hg] at w ⊢
      refine hc s2 F3 σ H3 A2 _ (G.mono g2 ex.fz) e3.holds ?_
      cases q3 : fc s2 with
      | bad => rw [q3] at w; exact w
      | er ex => rw [q3] at w; exact fun cls oe F' H' A' h1 h2 => w cls oe F' H' A' h1 ((e1.trans e3).trans h2)
      | ok zs =>
        obtain ⟨z, s3⟩ := zs
        rw [q3] at w
        rintro uz F4 H4 B A4 ⟨rB, r4⟩ g4 e4 q4
        subst rB
        refine ho' F4 H4 u uz y z _ (U.mono (U.mono r2 ex.fz) e4.fz) r4 e4.holds.fz (fun z' ez w'' F5 H5 B hr ex5 => ?_) (by intro h; cases h) (fun _ => okne)
        cases ez
        obtain ⟨rB, rv⟩ := hr
        subst rB
        exact ⟨_, rv, w F5 H5 A4 (G.mono g4 ex5.fz) ((e1.trans (e3.trans e4)).trans (ext_nil e4.holds ex5)) fun hp => by
          simp only [Bool.and_eq_true] at hp
          exact ⟨(q4 hp.2.2).1.trans ((q2 hp.2.1).1.trans (q1 hp.1).1), (q4 hp.2.2).2.trans ((q2 hp.2.1).2.trans (q1 hp.1).2)⟩⟩
    · rw [if_neg hg] at w ⊢
      refine ⟨_, rfl, w F3 H3 A2 (G.mono g2 ex.fz) (e1.trans e3) fun hp => by
          simp only [Bool.and_eq_true] at hp
          exact ⟨(q2 hp.2.1).1.trans (q1 hp.1).1, (q2 hp.2.1).2.trans (q1 hp.1).2⟩⟩

/-- a slot that is not alive changes its type -/
def kMv (m : S → S') (f : S' → Out S2 L ρ) : S → Out S2 L ρ := fun s => f (m s)
theorem ss_mvK {sts : List Stmt} {m : S → S'} {f : S' → Out S2 L ρ} (mv : Mv G G' m) (h : SS XR W X Rr Gb G' sts G2 f) : SS XR W X Rr Gb G sts G2 (kMv m f) := by unfold kMv; exact ss_mv (m := m) mv h
theorem w_Mv {E : Ex → Prop} {R : ρ → Prop} {B C : L → Prop} {Q : S2 → Prop} {m : S → S'} {f : S' → Out S2 L ρ} {s : S} : (kMv m f s).Is E R B C Q = (f (m s)).Is E R B C Q := by unfold kMv; rfl
end
theorem kb_of {K : PySem.W.Frag} {x qual : Str} {st : Stmt} {f : Addr} {fd : FuncData} {ps ks : List Str} {n : Nat} (F : Fun K x qual st f fd) (h : ∀ (kV doc pm : Value) (an : Option Addr) (cdv ct : Value) (us ws : List Value), us.length = n → ws.length = ks.length →
    bindArgs (PySem.W.fnOf x qual (defArgs st) (defBody st) (defScope st) .none kV doc pm an cdv ct) ⟨us, ks.zip ws⟩ = pure (ps.zip (us ++ ws))) : KBn K fd ps n ks (fun us ws => us ++ ws) (fun vs zs => vs ++ zs) := by
  obtain ⟨oc, od, kV, doc, pm, an, cdv, ct, osl, rfl, lk, hcd⟩ := F.ex
  exact ⟨fun s us ws _ l1 l2 => .of_eq (h kV doc pm an cdv ct us ws l1 l2), fun r1 r2 => r1.append r2⟩
end TC
/-! int(a truth value); tuple(a pair); h[1:], (x,) + h of wide tuples -/
namespace TC
open PySem PySem.Spec PyProof.Rows L2
section
variable {XR : XRel} {W : WX} {X : Cx} {S S' S2 L ρ : Type} {G : Ctx S} {G' : Ctx S'} {α β γ ι : Type} {e a b : Expr} {es : List Expr} {kws : List Keyword} {pos : Pos} {p p1 p2 p3 : Bool} {Rr : Rl ρ} {Gb : Ctx L}
def mInt (b : Bool) : Res Int := .ok (if b = true then 1 else 0)
theorem em_intB {fa : S → Res (Bool × S)} {pp : Pos} (hg : L2.Gl X "int") (hm : X.mg "int" = none) (ha : EM XR W X p G a (fz tBool) fa) (hs : starEach [a] X.env = [(false, eval a X.env)] := by rfl) : EM XR W X p G (.Call (.Name "int" pp) [a] [] pos) (fz tInt) (kU mInt fa) :=
  em_callTy (T := tBool) (g := mInt) call_int1 hg hm (by decide +kernel) (fun F H v x Q rv s h _ _ => .inr ⟨x, by rw [show v = .bl x from rv], h _ rfl _ F H [] ⟨rfl, by cases x <;> rfl⟩ (Ext.refl (holds_nil s))⟩) (fun _ _ => okne) ha hs
theorem em_tupP {T : Ty α} {U : Ty β} {fa : S → Res ((α × β) × S)} {pp : Pos} (hg : L2.Gl X "tuple") (hm : X.mg "tuple" = none) (ha : EM XR W X p G a (fz (tP2 T U)) fa) (hs : starEach [a] X.env = [(false, eval a X.env)] := by rfl) : EM XR W X p G (.Call (.Name "tuple" pp) [a] [] pos) (fz (tP2 T U)) (kU (fun x => .ok x) fa) :=
  em_callTy (T := tP2 T U) (g := fun x => .ok x) call_tuple_of hg hm (by decide +kernel) (fun F H v x Q ⟨a, v1, v2, ev, q, r1, r2⟩ s h _ _ => ⟨a, [v1, v2], by rw [ev], .inr ⟨SqT.of (s _ _ q), h x rfl _ F H [] ⟨rfl, a, v1, v2, rfl, q, r1, r2⟩ (Ext.refl (holds_nil s))⟩⟩) (fun _ _ => okne) ha hs
/-- h[1:] -/
theorem em_htail {P : Type} {T : Ty α} {Z : HTy P} {f : S → Res ((α × P) × S)} {j : Nat} {p5 p6 : Pos} (ha : EM XR W X p G a (fz (tH (hcons T Z))) f) : EM XR W X p G (.Subscript a (.Slice (some (.Constant (.int 1) j p5)) none none p6) pos) (fz (tH Z)) (kF (fun x => x.2) f) := by
  obtain ⟨t, ht, ha⟩ := ha
  refine ⟨_, pe_slice sl_tupA ht (po_some pe_int) po_none, fun s F σ H A Q g k w => ha s F σ H A _ g k (WPE.bind w fun x s1 v F1 H1 B A1 ⟨rB, r1⟩ g1 e1 q1 w => ?_)⟩
  subst rB
  obtain ⟨ad, vs, ev, q, v1, r, er, h1, h2⟩ := r1
  subst ev er
  refine ⟨1, rfl, ad, v1 :: r, rfl, SqT.of (e1.holds.fz _ _ q), fun hw => absurd hw.1 ?_, fun _ l hl => ?_⟩
  · have : HT.sIx (v1 :: r).length 0 (some 1) = min 1 (r.length + 1) := rfl
    rw [this]
    omega
  · have ec : cutV (v1 :: r) (some 1) none = r := by
      unfold cutV
      have e1 : HT.sIx (v1 :: r).length 0 (some 1) = 1 := by
        show min 1 (r.length + 1) = 1
        omega
      have e2 : HT.sIx (v1 :: r).length (v1 :: r).length none = (v1 :: r).length := rfl
      rw [e1, e2]
      simp
    rw [ec]
    have ex : Ext F1 H1 A1 (upd F1 l (.tup r)) (upd H1 l (.tup r)) A1 := Ext.newF e1.holds hl
    exact w _ _ _ [] A1 ⟨rfl, l, r, rfl, upd_same, Z.mono h2 ex.fz⟩ (G.mono g1 ex.fz) (e1.trans ex) q1
/-- (x,) + h -/
theorem em_hadd {P : Type} {T : Ty α} {Z : HTy P} {fa : S → Res ((α × Unit) × S)} {fb : S → Res (P × S)} (ha : EM XR W X p1 G a (fz (tH (hcons T hnil))) fa) (hb : EM XR W X p2 G b (fz (tH Z)) fb) (hz : 1 ≤ Z.n ∧ Z.n ≤ 1000 := by decide) : EM XR W X (p1 && p2) G (.BinOp a .Add b pos) (fz (tH (hcons T Z))) (kB (fun x y => .ok (x.1, y)) fa fb) :=
  em_op2 (T1 := tH (hcons T hnil)) (T2 := tH Z) (g := fun x y => .ok (x.1, y)) (fun _ _ => pe_op op_catA) (fun F H v u x y Q ⟨a, vs, ev, q, v1, r1, er, h1, h2⟩ ⟨b, us, eu, q', r'⟩ s h nb _ => by
    subst er
    have e0 : r1 = [] := h2
    subst e0
    have hl := Z.len r'
    refine ⟨a, b, [v1], us, ev, eu, SqT.of (s _ _ q), SqT.of (s _ _ q'), ?_, ?_, ?_, fun _ _ l hl2 => ?_⟩
    · have := big_line
      rw [hl]
      show 1 + Z.n ≤ _
      omega
    · intro hx; cases hx
    · intro _ hy
      rw [hy] at hl
      have : ([] : List V).length = 0 := rfl
      omega
    · have ex : Ext F H [] (upd F l (.tup (v1 :: us))) (upd H l (.tup (v1 :: us))) [] := Ext.newF (holds_nil s) hl2
      exact h _ rfl _ _ _ [] ⟨rfl, l, v1 :: us, rfl, upd_same, v1, us, rfl, T.mono h1 ex.fz, Z.mono r' ex.fz⟩ ex) (fun _ _ _ => okne) ha hb
end
end TC
/-! loops and comprehensions of the mirrors, by what they leave: for plain laws -/
namespace TC
open PySem PySem.Spec PyProof.Rows L2
section
variable {ι S β L L' ρ : Type} {E E' : Ex → Prop} {R : ρ → Prop}
theorem line_of {n : Nat} (h : n ≤ 1000000) : n ≤ sizeLine := Nat.le_trans h big_line
/-- a comprehension without if, item by item -/
theorem comp_map {body : ι → S → Res (Option β × S)} {Q : List β × S → Prop} {xs : List ι} {s : S} (g : ι → β) (St : S → Prop) (hl : xs.length ≤ 1000000) (h0 : St s) (hs : ∀ x s, x ∈ xs → St s → (body x s).Is (fun _ => False) fun r => r.1 = some (g x) ∧ St r.2)
    (hd : ∀ s, St s → Q (xs.map g, s)) : (mComp body xs s).Is E' Q := by
  refine mComp_is (line_of hl) (fun i s acc => St s ∧ acc = (xs.take i).map g) ⟨h0, rfl⟩ (fun i x s acc hx ⟨h1, h2⟩ => ?_) (fun s acc ⟨h1, h2⟩ => ?_)
  · refine (hs x s (List.mem_of_getElem? hx) h1).mono fun r ⟨e, h⟩ => ⟨h, ?_⟩
    rw [e, h2, List.take_add_one, hx, List.map_append]; rfl
  · rw [h2, List.take_length]; exact hd s h1
/-- .. of which only something is known -/
theorem comp_any {body : ι → S → Res (Option β × S)} {Q : List β × S → Prop} {xs : List ι} {s : S} (Pr : β → Prop) (St : S → Prop) (hl : xs.length ≤ 1000000) (h0 : St s) (hs : ∀ x s, x ∈ xs → St s → (body x s).Is (fun _ => False) fun r => (∃ y, r.1 = some y ∧ Pr y) ∧ St r.2)
    (hd : ∀ ys s, ys.length = xs.length → (∀ y ∈ ys, Pr y) → St s → Q (ys, s)) : (mComp body xs s).Is E' Q := by
  refine mComp_is (line_of hl) (fun i s acc => St s ∧ acc.length = i ∧ ∀ y ∈ acc, Pr y) ⟨h0, rfl, fun _ m => by cases m⟩ (fun i x s acc hx ⟨h1, h2, h3⟩ => ?_) (fun s acc ⟨h1, h2, h3⟩ => hd acc s h2 h3 h1)
  refine (hs x s (List.mem_of_getElem? hx) h1).mono fun r ⟨⟨y, e, hy⟩, h⟩ => ⟨h, ?_, ?_⟩
  · rw [e]; simp [h2]
  · rw [e]
    intro z hz
    rcases List.mem_append.mp hz with hz | hz
    · exact h3 z hz
    · simp at hz; rw [hz]; exact hy
/-- .. place by place -/
theorem comp_at {body : ι → S → Res (Option β × S)} {Q : List β × S → Prop} {xs : List ι} {s : S} (Pr : Nat → β → Prop) (St : S → Prop) (hl : xs.length ≤ 1000000) (h0 : St s) (hs : ∀ i x s, xs[i]? = some x → St s → (body x s).Is (fun _ => False) fun r => (∃ y, r.1 = some y ∧ Pr i y) ∧ St r.2)
    (hd : ∀ ys s, ys.length = xs.length → (∀ (i : Nat) (y : β), ys[i]? = some y → Pr i y) → St s → Q (ys, s)) : (mComp body xs s).Is E' Q := by
  refine mComp_is (line_of hl) (fun i s acc => St s ∧ acc.length = i ∧ ∀ (j : Nat) (y : β), acc[j]? = some y → Pr j y) ⟨h0, rfl, fun _ _ m => by simp at m⟩ (fun i x s acc hx ⟨h1, h2, h3⟩ => ?_) (fun s acc ⟨h1, h2, h3⟩ => hd acc s h2 h3 h1)
  refine (hs i x s hx h1).mono fun r ⟨⟨y, e, hy⟩, h⟩ => ⟨h, ?_, ?_⟩
  · rw [e]; simp [h2]
  · rw [e]
    intro j z hz
    rw [List.getElem?_append] at hz
    split at hz
    · exact h3 j z hz
    · rename_i hj
      simp only [Option.toList_some] at hz
      have hj2 : j = i := by
        rcases Nat.lt_or_ge (j - acc.length) 1 with h | h
        · omega
        · rw [List.getElem?_eq_none (by simpa using h)] at hz; cases hz
      subst hj2
      rw [h2, Nat.sub_self] at hz
      cases hz
      exact hy
/-- a comprehension with if -/
theorem comp_filter {body : ι → S → Res (Option β × S)} {Q : List β × S → Prop} {xs : List ι} {s : S} (c : ι → Bool) (g : ι → β) (St : S → Prop) (hl : xs.length ≤ 1000000) (h0 : St s) (hs : ∀ x s, x ∈ xs → St s → (body x s).Is (fun _ => False) fun r => r.1 = (if c x = true then some (g x) else none) ∧ St r.2)
    (hd : ∀ s, St s → Q ((xs.filter c).map g, s)) : (mComp body xs s).Is E' Q := by
  refine mComp_is (line_of hl) (fun i s acc => St s ∧ acc = ((xs.take i).filter c).map g) ⟨h0, rfl⟩ (fun i x s acc hx ⟨h1, h2⟩ => ?_) (fun s acc ⟨h1, h2⟩ => ?_)
  · refine (hs x s (List.mem_of_getElem? hx) h1).mono fun r ⟨e, h⟩ => ⟨h, ?_⟩
    rw [e, h2, List.take_add_one, hx, List.filter_append, List.map_append]
    congr 1
    by_cases hc : c x = true
    · rw [if_pos hc]; simp [List.filter_cons, hc]
    · rw [if_neg hc]; simp [List.filter_cons, hc]
  · rw [h2, List.take_length]; exact hd s h1
/-- a for that looks for a reason to return, and goes on without -/
theorem for_all {body : ι → L → Out L L ρ} {B' C' : L' → Prop} {Q : L → Prop} {xs : List ι} {l : L} (c : ι → Bool) (St : L → Prop) (Rf : ρ → Prop) (h0 : St l)
    (hs : ∀ x l, x ∈ xs → St l → (body x l).Is E (fun r => c x = false ∧ Rf r) (fun _ => False) (fun l' => c x = true ∧ St l') (fun l' => c x = true ∧ St l'))
    (hr : ∀ r, xs.all c = false → Rf r → R r) (hd : ∀ l, St l → xs.all c = true → Q l) : (forM body xs l : Out L L' ρ).Is E R B' C' Q := by
  refine forM_is (fun i l => St l ∧ (xs.take i).all c = true) ⟨h0, rfl⟩ (fun i x l hx ⟨h1, h2⟩ => ?_) (fun l ⟨h1, h2⟩ => hd l h1 (by rwa [List.take_length] at h2))
  have hm := List.mem_of_getElem? hx
  have st : c x = true → (xs.take (i + 1)).all c = true := fun hc => by rw [List.take_add_one, hx, List.all_append, h2]; simp [hc]
  refine (hs x l hm h1).mono (fun r ⟨h, h'⟩ => hr r ?_ h') (fun _ h => h.elim) (fun l' ⟨h, h'⟩ => ⟨h', st h⟩) (fun l' ⟨h, h'⟩ => ⟨h', st h⟩)
  cases z : xs.all c with
  | false => rfl
  | true => rw [List.all_eq_true.mp z x hm] at h; cases h
/-- a for that folds -/
theorem for_fold {α : Type} {body : ι → L → Out L L ρ} {B' C' : L' → Prop} {Q : L → Prop} {xs : List ι} {l : L} (f : α → ι → α) (a : α) (St : α → L → Prop) (h0 : St a l)
    (h1 : ∀ i x l, xs[i]? = some x → St ((xs.take i).foldl f a) l → (body x l).Is E R (fun _ => False) (St (f ((xs.take i).foldl f a) x)) (St (f ((xs.take i).foldl f a) x)))
    (hd : ∀ l, St (xs.foldl f a) l → Q l) : (forM body xs l : Out L L' ρ).Is E R B' C' Q := by
  refine forM_is (fun i l => St ((xs.take i).foldl f a) l) h0 (fun i x l hx h => ?_) (fun l h => hd l (by rwa [List.take_length] at h))
  have e : (xs.take (i + 1)).foldl f a = f ((xs.take i).foldl f a) x := by rw [List.take_add_one, hx, List.foldl_append]; rfl
  rw [e]
  exact (h1 i x l hx h).mono (fun _ h => h) (fun _ h => h.elim) (fun _ h => h) (fun _ h => h)
/-- a for that keeps something true -/
theorem for_keep {body : ι → L → Out L L ρ} {B' C' : L' → Prop} {Q : L → Prop} {xs : List ι} {l : L} (St : L → Prop) (h0 : St l)
    (h1 : ∀ x l, x ∈ xs → St l → (body x l).Is E R (fun _ => False) St St) (hd : ∀ l, St l → Q l) : (forM body xs l : Out L L' ρ).Is E R B' C' Q :=
  forM_is (fun _ l => St l) h0 (fun i x l hx h => (h1 x l (List.mem_of_getElem? hx) h).mono (fun _ h => h) (fun _ h => h.elim) (fun _ h => h) (fun _ h => h)) (fun l h => hd l h)
theorem is_mIxD {α : Type} (d : α) {xs : List α} {i : Int} {Q : α → Prop} (h0 : 0 ≤ i) (h : i < (xs.length : Int)) (k : Q (xs.getD i.toNat d)) : (mIx xs i).Is E Q := by
  have hl : i.toNat < xs.length := by omega
  refine is_mIx (xs.getD i.toNat d) h0 ?_ k
  rw [List.getD_eq_getElem?_getD, List.getElem?_eq_getElem hl]; rfl
theorem irange_mem {lo hi x : Int} : x ∈ irange lo hi ↔ lo ≤ x ∧ x < hi := by
  unfold irange
  rw [List.mem_map]
  constructor
  · rintro ⟨i, h, rfl⟩
    have := List.mem_range.mp h
    omega
  · intro h
    exact ⟨(x - lo).toNat, List.mem_range.mpr (by omega), by omega⟩
theorem len_irange {n : Nat} : (irange 0 (n : Int)).length = n := by rw [irange_length]; omega
end
end TC
/-! the new words of texts, by what they ask -/
namespace TC
open PySem PySem.Spec PyProof.Rows L2
section
variable {ι S β L L' ρ α : Type} {E E' : Ex → Prop} {R : ρ → Prop}
theorem mInS_eq (c : Nat) (x : List Nat) : mInS c x = decide (c ∈ x) := by unfold mInS; exact Eq.trans rfl rfl
theorem mNinS_eq (c : Nat) (x : List Nat) : mNinS c x = !decide (c ∈ x) := by unfold mNinS; exact Eq.trans rfl rfl
theorem is_mIxS {x : List Nat} {i : Int} {Q : Nat → Prop} (hl : x.length ≤ 1000000) (h0 : 0 ≤ i) (h : i < (x.length : Int)) (k : Q (x.getD i.toNat 0)) : (mIxS x i).Is E Q := by
  unfold mIxS
  rw [if_pos hl]
  exact is_mIxD 0 h0 h k
theorem is_mStr {i : Int} {Q : List Nat → Prop} (h0 : 0 ≤ i) (h : i ≤ 1000000) (k : Q (TL.numL i.toNat)) : (mStr i).Is E Q := by
  unfold mStr
  rw [if_pos ⟨h0, h⟩]
  exact isk k
/-- a comprehension that keeps a known part of what is walked -/
theorem comp_keep {body : ι → S → Res (Option β × S)} {Q : List β × S → Prop} {xs : List ι} {s : S} (P : ι → Option β → Prop) (St : S → Prop) (Rel : List ι → List β → Prop) (r0 : Rel [] []) (r1 : ∀ ys zs x o, Rel ys zs → P x o → Rel (ys ++ [x]) (zs ++ o.toList))
    (hl : xs.length ≤ 1000000) (h0 : St s) (hs : ∀ x s, x ∈ xs → St s → (body x s).Is (fun _ => False) fun r => P x r.1 ∧ St r.2) (hd : ∀ zs s, Rel xs zs → St s → Q (zs, s)) : (mComp body xs s).Is E' Q := by
  refine mComp_is (line_of hl) (fun i s acc => St s ∧ Rel (xs.take i) acc) ⟨h0, r0⟩ (fun i x s acc hx ⟨h1, h2⟩ => ?_) (fun s acc ⟨h1, h2⟩ => ?_)
  · refine (hs x s (List.mem_of_getElem? hx) h1).mono fun r ⟨e, h⟩ => ⟨h, ?_⟩
    rw [List.take_add_one, hx]
    exact r1 _ _ _ _ h2 e
  · rw [List.take_length] at h2; exact hd acc s h2 h1
theorem all_range {α : Type} {xs : List α} {d : α} {f : α → Bool} : ((irange 0 (xs.length : Int)).all fun k => f (xs.getD k.toNat d)) = xs.all f := by
  rw [Bool.eq_iff_iff, List.all_eq_true, List.all_eq_true]
  constructor
  · intro h x hx
    obtain ⟨i, hi, e⟩ := List.getElem_of_mem hx
    have := h (i : Int) (irange_mem.mpr (by omega))
    simpa [List.getD_eq_getElem?_getD, List.getElem?_eq_getElem hi, e] using this
  · intro h k hk
    have hk := irange_mem.mp hk
    have hl : k.toNat < xs.length := by omega
    rw [List.getD_eq_getElem?_getD, List.getElem?_eq_getElem hl]
    exact h _ (List.getElem_mem hl)
/-- a block is cut: what holds behind its first statements -/
theorem cut0 {S' S2 : Type} {B C : L → Prop} {Q : S2 → Prop} {f : S → Out S' L ρ} {g : S' → Out S2 L ρ} {s : S} (St : S' → Prop) (h1 : (f s).Is E R B C St) (h2 : ∀ s', St s' → (g s').Is E R B C Q) : (kSeq f g s).Is E R B C Q := by
  rw [w_SeqL]
  exact h1.mono (fun _ h => h) (fun _ h => h) (fun _ h => h) fun s' h => ⟨h2 s' h⟩
theorem cut1 {S1 S' S2 : Type} {B C : L → Prop} {Q : S2 → Prop} {f1 : S → Out S1 L ρ} {f : S1 → Out S' L ρ} {g : S' → Out S2 L ρ} {s : S} (St : S' → Prop) (h1 : (kSeq f1 f s).Is E R B C St) (h2 : ∀ s', St s' → (g s').Is E R B C Q) : (kSeq f1 (kSeq f g) s).Is E R B C Q := by
  rw [w_SeqL] at h1 ⊢
  refine h1.mono (fun _ h => h) (fun _ h => h) (fun _ h => h) fun s1 h => ⟨?_⟩
  exact cut0 St h.h h2
theorem cut2 {S0 S1 S' S2 : Type} {B C : L → Prop} {Q : S2 → Prop} {f0 : S → Out S0 L ρ} {f1 : S0 → Out S1 L ρ} {f : S1 → Out S' L ρ} {g : S' → Out S2 L ρ} {s : S} (St : S' → Prop) (h1 : (kSeq f0 (kSeq f1 f) s).Is E R B C St) (h2 : ∀ s', St s' → (g s').Is E R B C Q) : (kSeq f0 (kSeq f1 (kSeq f g)) s).Is E R B C Q := by
  rw [w_SeqL] at h1 ⊢
  refine h1.mono (fun _ h => h) (fun _ h => h) (fun _ h => h) fun s1 h => ⟨?_⟩
  exact cut1 St h.h h2
/-- a for that folds, the fold's value named -/
theorem for_foldG {γ : Type} {body : ι → L → Out L L ρ} {B' C' : L' → Prop} {Q : L → Prop} {xs : List ι} {l : L} (f : γ → ι → γ) (a : γ) (St : γ → L → Prop) (h0 : St a l)
    (h1 : ∀ x v l, x ∈ xs → St v l → (body x l).Is E R (fun _ => False) (St (f v x)) (St (f v x))) (hd : ∀ v l, v = xs.foldl f a → St v l → Q l) : (forM body xs l : Out L L' ρ).Is E R B' C' Q :=
  for_fold f a St h0 (fun i x l hx h => h1 x _ l (List.mem_of_getElem? hx) h) fun l h => hd _ l rfl h
end
end TC
set_option synthInstance.maxHeartbeats 400000
set_option synthInstance.maxSize 100000
namespace W
open PySem PySem.Spec PyProof.Rows L2 TC
abbrev St := L2.St
def topS (i : Nat) : Stmt := PySem.Challenge.pw_covernets_k45_systems.main.body.getD i (.Pass ⟨0, 0, 0, 0⟩)
abbrev RRule : Type := ((((((((Unit × (List Nat)) × (List ((List Nat) × (List Nat)))) × (List ((List Nat) × (List Nat)))) × (List (List Nat))) × (List ((List Nat) × (List Nat)))) × (List ((List Nat) × (List Nat)))) × (List ((List Nat) × (List Nat)))) × (List ((List Nat) × (List Nat))))
def dRule : RRule := (((((((((), []), []), []), []), []), []), []), [])
abbrev frRule : FR RRule := (frC (frC (frC (frC (frC (frC (frC (frC frNil "name" tTxt) "actors" (tTup (tP2 tTxt tTxt))) "everyone" (tTup (tP2 tTxt tTxt))) "born" (tTup tTxt)) "conditions" (tTup (tP2 tTxt tTxt))) "effects" (tTup (tP2 tTxt tTxt))) "hears" (tTup (tP2 tTxt tTxt))) "sends" (tTup (tP2 tTxt tTxt)))
abbrev tyRule (C : Addr) : Ty RRule := tIns C frRule
structure NARule (K : PySem.W.Frag) (C : Addr) : Prop where
  name : NoAttr K C "name"
  actors : NoAttr K C "actors"
  everyone : NoAttr K C "everyone"
  born : NoAttr K C "born"
  conditions : NoAttr K C "conditions"
  effects : NoAttr K C "effects"
  hears : NoAttr K C "hears"
  sends : NoAttr K C "sends"
abbrev RSystem : Type := ((((((Unit × (List (List Nat))) × (List Nat)) × (List ((List Nat) × (List (List Nat))))) × (List ((List Nat) × (List (List Nat))))) × (List RRule)) × (List ((List ((List Nat) × Int)) × (List ((List Nat) × (List Nat))))))
def dSystem : RSystem := (((((((), []), []), []), []), []), [])
abbrev frSystem (CRule : Addr) : FR RSystem := (frC (frC (frC (frC (frC (frC frNil "states" (tTup tTxt)) "start" tTxt) "variables" (tTup (tP2 tTxt (tTup tTxt)))) "channels" (tTup (tP2 tTxt (tTup tTxt)))) "rules" (tTup (tyRule CRule))) "bad" (tTup (tP2 (tTup (tP2 tTxt tInt)) (tTup (tP2 tTxt tTxt)))))
abbrev tySystem (C : Addr) (CRule : Addr) : Ty RSystem := tIns C (frSystem CRule)
structure NASystem (K : PySem.W.Frag) (C : Addr) : Prop where
  states : NoAttr K C "states"
  start : NoAttr K C "start"
  variables : NoAttr K C "variables"
  channels : NoAttr K C "channels"
  rules : NoAttr K C "rules"
  bad : NoAttr K C "bad"
structure Uses (K : PySem.W.Frag) (mg : Str → Option Value) : Prop where
  DIGITS : ∃ t, mg "DIGITS" = some (.str "0123456789" t)
  GONE : ∃ t, mg "GONE" = some (.str "gone" t)
  LOWER : ∃ t, mg "LOWER" = some (.str "abcdefghijklmnopqrstuvwxyz" t)
  RESERVED : KTupAt K mg "RESERVED" [V.str "all", V.str "new", V.str "if", V.str "set", V.str "hear", V.str "send", V.str "lose", V.str "gone"]
  bool : mg "bool" = none
  int : mg "int" = none
  isinstance : mg "isinstance" = none
  len : mg "len" = none
  list : mg "list" = none
  range : mg "range" = none
  set : mg "set" = none
  str : mg "str" = none
  tuple : mg "tuple" = none
section
variable {P : Program} {w : World} {K : PySem.W.Frag} {mg : Str → Option Value} {base : Heap}
/-! ### is_name -/
noncomputable def m_is_name : (List Nat) × Unit → Res Bool := kRun (S := (List Nat) × Nat × Unit) (S' := Unit) (L := Unit) (kSeq (kIf (kOr (kCmp mEq (kV gZ) (kC ([] : List Nat))) (kOr (kCmp mNinS (kB mIxS (kV gZ) (kC (0 : Int))) (kC ([97, 98, 99, 100, 101, 102, 103, 104, 105, 106, 107, 108, 109, 110, 111, 112, 113, 114, 115, 116, 117, 118, 119, 120, 121, 122] : List Nat))) (kCmp mIn (kV gZ) (kC [([97, 108, 108] : List Nat), ([110, 101, 119] : List Nat), ([105, 102] : List Nat), ([115, 101, 116] : List Nat), ([104, 101, 97, 114] : List Nat), ([115, 101, 110, 100] : List Nat), ([108, 111, 115, 101] : List Nat), ([103, 111, 110, 101] : List Nat)])))) (kRet (kC false)) kNx) (kSeq (kFor (kV gZ) (pS pZ) (kSeq (kIf (kAnd (kCmp mNinS (kV (gS gZ)) (kC ([97, 98, 99, 100, 101, 102, 103, 104, 105, 106, 107, 108, 109, 110, 111, 112, 113, 114, 115, 116, 117, 118, 119, 120, 121, 122] : List Nat))) (kCmp mNinS (kV (gS gZ)) (kC ([48, 49, 50, 51, 52, 53, 54, 55, 56, 57] : List Nat)))) (kRet (kC false)) kNx) kNx)) (kRet (kC true)))) (iS (iZ (0, ()))) (fun _ => .bad)
noncomputable def l_is_name_3 : ((List Nat) × Nat × Unit) → Out ((List Nat) × Nat × Unit) ((List Nat) × Nat × Unit) Bool := (kSeq (kIf (kAnd (kCmp mNinS (kV (gS gZ)) (kC ([97, 98, 99, 100, 101, 102, 103, 104, 105, 106, 107, 108, 109, 110, 111, 112, 113, 114, 115, 116, 117, 118, 119, 120, 121, 122] : List Nat))) (kCmp mNinS (kV (gS gZ)) (kC ([48, 49, 50, 51, 52, 53, 54, 55, 56, 57] : List Nat)))) (kRet (kC false)) kNx) kNx)
theorem n_is_name : m_is_name = kRun (S := (List Nat) × Nat × Unit) (S' := Unit) (L := Unit) (kSeq (kIf (kOr (kCmp mEq (kV gZ) (kC ([] : List Nat))) (kOr (kCmp mNinS (kB mIxS (kV gZ) (kC (0 : Int))) (kC ([97, 98, 99, 100, 101, 102, 103, 104, 105, 106, 107, 108, 109, 110, 111, 112, 113, 114, 115, 116, 117, 118, 119, 120, 121, 122] : List Nat))) (kCmp mIn (kV gZ) (kC [([97, 108, 108] : List Nat), ([110, 101, 119] : List Nat), ([105, 102] : List Nat), ([115, 101, 116] : List Nat), ([104, 101, 97, 114] : List Nat), ([115, 101, 110, 100] : List Nat), ([108, 111, 115, 101] : List Nat), ([103, 111, 110, 101] : List Nat)])))) (kRet (kC false)) kNx) (kSeq (kFor (kV gZ) (pS pZ) l_is_name_3) (kRet (kC true)))) (iS (iZ (0, ()))) (fun _ => .bad) := rfl
abbrev s_is_name : Stmt := (topS 8)
theorem sc_is_name : FnScope ["word", "char"] ["word"] (defScope s_is_name) := ⟨rfl, rfl, rfl, by decide +kernel, rfl, by decide +kernel, by decide +kernel⟩
theorem ok_is_name {f : Addr} {fd : FuncData} (D : DefAt K mg "is_name" s_is_name ["word"] f fd) (U : Uses K mg)  : FnOk P w K mg base (L2.CX P w) 1 f fd ["word"] (spP (XRm mg) (acons (fz tTxt) anil) (fz tBool) m_is_name) :=
  fn_okK (G1 := fun _ => gnil) D.F sc_is_name rfl rfl (fun _ => (st_cons (st_nil (any_cons any_nil)))) (fun _ => fall_bad) (fun _ cdv A outer s H E hr =>
    (ss_cons (sm_if (tm_b (bm_or (tm_c (cm_eqS scTxt) (nomark _) (em_var rfl (.inl rfl) At.z) (em_txt (x := ([] : List Nat)) (by decide +kernel) (by decide))) (bm_or (tm_c cm_ninS (by rfl) (em_ixS (fun _ _ => rfl) (em_var rfl (.inl rfl) At.z) em_int) (em_globS (l := ([97, 98, 99, 100, 101, 102, 103, 104, 105, 106, 107, 108, 109, 110, 111, 112, 113, 114, 115, 116, 117, 118, 119, 120, 121, 122] : List Nat)) (by rfl) U.LOWER (by decide +kernel) (by decide))) (bm_or1 (tm_c (cm_inK rfl scTxt) (by rfl) (em_var rfl (.inl rfl) At.z) (em_globK (T := tTxt) (l := [([97, 108, 108] : List Nat), ([110, 101, 119] : List Nat), ([105, 102] : List Nat), ([115, 101, 116] : List Nat), ([104, 101, 97, 114] : List Nat), ([115, 101, 110, 100] : List Nat), ([108, 111, 115, 101] : List Nat), ([103, 111, 110, 101] : List Nat)]) (by rfl) U.RESERVED (fun _ => by refine ⟨⟨rfl, by decide⟩, ⟨rfl, by decide⟩, ⟨rfl, by decide⟩, ⟨rfl, by decide⟩, ⟨rfl, by decide⟩, ⟨rfl, by decide⟩, ⟨rfl, by decide⟩, ⟨rfl, by decide⟩, trivial⟩))))))) (ss_one (sm_retP em_bool)) (ss_nilI MvI.refl)) (ss_cons (sm_forI (passes_of rfl) rfl (im_txt (em_var rfl (.inl rfl) At.z)) MvI.refl (tgt_name sc_is_name.nd rfl (.inl rfl) (At.s At.z) (.inl rfl)) (ss_cons (sm_if (tm_b (bm_and (tm_c cm_ninS (by rfl) (em_var rfl (.inl rfl) (At.s At.z)) (em_globS (l := ([97, 98, 99, 100, 101, 102, 103, 104, 105, 106, 107, 108, 109, 110, 111, 112, 113, 114, 115, 116, 117, 118, 119, 120, 121, 122] : List Nat)) (by rfl) U.LOWER (by decide +kernel) (by decide))) (bm_and1 (tm_c cm_ninS (by rfl) (em_var rfl (.inl rfl) (At.s At.z)) (em_globS (l := ([48, 49, 50, 51, 52, 53, 54, 55, 56, 57] : List Nat)) (by rfl) U.DIGITS (by decide +kernel) (by decide)))))) (ss_one (sm_retP em_bool)) (ss_nilI MvI.refl)) (ss_nilI (MvI.cons SMvI.refl (MvI.cons SMvI.hide MvI.refl))))) (ss_one (sm_retP em_bool)))))
/-! ### pairs_of -/
noncomputable def m_pairs_of : (List ((List Nat) × (List Nat))) × Unit → Res (List ((List Nat) × (List Nat))) := kRun (S := (List ((List Nat) × (List Nat))) × (List Nat) × (List Nat) × Unit) (S' := Unit) (L := Unit) (kRet (kU (fun x => .ok x) (kLc (kV gZ) (pP (pS pZ) (pS (pS pZ))) (kF (fun x => (x.1, x.2.1)) (kPair (kV (gS gZ)) (kPair (kV (gS (gS gZ))) kU0)))))) (iS (iZ ([], [], ()))) (fun _ => .bad)
abbrev s_pairs_of : Stmt := (topS 9)
theorem sc_pairs_of : FnScope ["pairs", "first", "second"] ["pairs"] (defScope s_pairs_of) := ⟨rfl, rfl, rfl, by decide +kernel, rfl, by decide +kernel, by decide +kernel⟩
theorem ok_pairs_of {f : Addr} {fd : FuncData} (D : DefAt K mg "pairs_of" s_pairs_of ["pairs"] f fd) (U : Uses K mg)  : FnOk P w K mg base (L2.CX P w) 1 f fd ["pairs"] (spP (XRm mg) (acons (fz (tLst (tP2 tTxt tTxt))) anil) (fz (tTup (tP2 tTxt tTxt))) m_pairs_of) :=
  fn_okK (G1 := fun _ => gnil) D.F sc_pairs_of rfl rfl (fun _ => (st_cons (st_nil (any_cons (any_cons any_nil))))) (fun _ => fall_bad) (fun _ cdv A outer s H E hr =>
    (ss_one (sm_retP (em_tupL (by rfl) U.tuple (em_freeze (em_lcK (own := [("first", 1), ("second", 2)]) rfl sc_pairs_of.nd (im_list (em_var rfl (.inl rfl) At.z)) (blkOk_by (N := ["pairs", "first", "second"]) (sc := (defScope s_pairs_of)) (by decide +kernel)) (ko_keep (by decide) (ko_any (ko_any ko_nil))) (fun _ _ _ _ _ => (tgt_pair rfl sc_pairs_of.nd rfl (.inl (by rfl)) rfl (.inl (by rfl)) (At.s At.z) (At.s (At.s At.z)) (fun h h2 => pg_tup rfl (pgs_cons h (pgs_cons h2 pgs_nil))) (.inr (by rfl)) (.inr (by rfl)))) (fun _ _ _ _ _ => (em_tup2 (am_cons (em_var rfl (.inl (by rfl)) (At.s At.z)) (am_cons (em_var rfl (.inl (by rfl)) (At.s (At.s At.z))) am_nil)))) (bi_cons (bi_any (bi_any bi_refl)))))))))
/-! ### pairs_of@n -/
noncomputable def m_pairs_of_n : (List ((List Nat) × Int)) × Unit → Res (List ((List Nat) × Int)) := kRun (S := (List ((List Nat) × Int)) × (List Nat) × Int × Unit) (S' := Unit) (L := Unit) (kRet (kU (fun x => .ok x) (kLc (kV gZ) (pP (pS pZ) (pS (pS pZ))) (kF (fun x => (x.1, x.2.1)) (kPair (kV (gS gZ)) (kPair (kV (gS (gS gZ))) kU0)))))) (iS (iZ ([], 0, ()))) (fun _ => .bad)
theorem ok_pairs_of_n {f : Addr} {fd : FuncData} (D : DefAt K mg "pairs_of" s_pairs_of ["pairs"] f fd) (U : Uses K mg)  : FnOk P w K mg base (L2.CX P w) 1 f fd ["pairs"] (spP (XRm mg) (acons (fz (tLst (tP2 tTxt tInt))) anil) (fz (tTup (tP2 tTxt tInt))) m_pairs_of_n) :=
  fn_okK (G1 := fun _ => gnil) D.F sc_pairs_of rfl rfl (fun _ => (st_cons (st_nil (any_cons (any_cons any_nil))))) (fun _ => fall_bad) (fun _ cdv A outer s H E hr =>
    (ss_one (sm_retP (em_tupL (by rfl) U.tuple (em_freeze (em_lcK (own := [("first", 1), ("second", 2)]) rfl sc_pairs_of.nd (im_list (em_var rfl (.inl rfl) At.z)) (blkOk_by (N := ["pairs", "first", "second"]) (sc := (defScope s_pairs_of)) (by decide +kernel)) (ko_keep (by decide) (ko_any (ko_any ko_nil))) (fun _ _ _ _ _ => (tgt_pair rfl sc_pairs_of.nd rfl (.inl (by rfl)) rfl (.inl (by rfl)) (At.s At.z) (At.s (At.s At.z)) (fun h h2 => pg_tup rfl (pgs_cons h (pgs_cons h2 pgs_nil))) (.inr (by rfl)) (.inr (by rfl)))) (fun _ _ _ _ _ => (em_tup2 (am_cons (em_var rfl (.inl (by rfl)) (At.s At.z)) (am_cons (em_var rfl (.inl (by rfl)) (At.s (At.s At.z))) am_nil)))) (bi_cons (bi_any (bi_any bi_refl)))))))))
/-! ### Rule.__init__ -/
noncomputable def m_Rule : Unit × (List Nat) × (List ((List Nat) × (List Nat))) × (List ((List Nat) × (List Nat))) × (List (List Nat)) × (List ((List Nat) × (List Nat))) × (List ((List Nat) × (List Nat))) × (List ((List Nat) × (List Nat))) × (List ((List Nat) × (List Nat))) × Unit → Res RRule := kRun (S := Unit × (List Nat) × (List ((List Nat) × (List Nat))) × (List ((List Nat) × (List Nat))) × (List (List Nat)) × (List ((List Nat) × (List Nat))) × (List ((List Nat) × (List Nat))) × (List ((List Nat) × (List Nat))) × (List ((List Nat) × (List Nat))) × Unit) (S' := RRule × (List Nat) × (List ((List Nat) × (List Nat))) × (List ((List Nat) × (List Nat))) × (List (List Nat)) × (List ((List Nat) × (List Nat))) × (List ((List Nat) × (List Nat))) × (List ((List Nat) × (List Nat))) × (List ((List Nat) × (List Nat))) × Unit) (L := Unit) (kSeq (kFldNew gZ pZ (kV (gS gZ))) (kSeq (kFldNew gZ pZ (kU m_pairs_of (kPair (kV (gS (gS gZ))) kU0))) (kSeq (kFldNew gZ pZ (kU m_pairs_of (kPair (kV (gS (gS (gS gZ)))) kU0))) (kSeq (kFldNew gZ pZ (kU (fun x => .ok x) (kV (gS (gS (gS (gS gZ))))))) (kSeq (kFldNew gZ pZ (kU m_pairs_of (kPair (kV (gS (gS (gS (gS (gS gZ)))))) kU0))) (kSeq (kFldNew gZ pZ (kU m_pairs_of (kPair (kV (gS (gS (gS (gS (gS (gS gZ))))))) kU0))) (kSeq (kFldNew gZ pZ (kU m_pairs_of (kPair (kV (gS (gS (gS (gS (gS (gS (gS gZ)))))))) kU0))) (kFldNew gZ pZ (kU m_pairs_of (kPair (kV (gS (gS (gS (gS (gS (gS (gS (gS gZ))))))))) kU0)))))))))) (iS (iS (iS (iS (iS (iS (iS (iS (iS (iZ ())))))))))) (fun s => .ok (gZ s))
abbrev s_Rule : Stmt := (inClass (topS 10) 0)
theorem sc_Rule : FnScope ["self", "name", "actors", "everyone", "born", "conditions", "effects", "hears", "sends"] ["self", "name", "actors", "everyone", "born", "conditions", "effects", "hears", "sends"] (defScope s_Rule) := ⟨rfl, rfl, rfl, by decide +kernel, rfl, by decide +kernel, by decide +kernel⟩
theorem ok_Rule {C f : Addr} {fd : FuncData} (O : IniAtK K mg "Rule" "Rule.__init__" s_Rule ["self", "name", "actors", "everyone", "born", "conditions", "effects", "hears", "sends"] 2 ["everyone", "born", "conditions", "effects", "hears", "sends"] C f fd) (NRule : NARule K C) (U : Uses K mg) {f_pairs_of : Addr} {fd_pairs_of : FuncData} (D_pairs_of : DefAt K mg "pairs_of" s_pairs_of ["pairs"] f_pairs_of fd_pairs_of) (G_pairs_of : FnOk P w K mg base (L2.CX P w) 1 f_pairs_of fd_pairs_of ["pairs"] (spP (XRm mg) (acons (fz (tLst (tP2 tTxt tTxt))) anil) (fz (tTup (tP2 tTxt tTxt))) m_pairs_of)) : FnOk P w K mg base (L2.CX P w) 2 f fd ["self", "name", "actors", "everyone", "born", "conditions", "effects", "hears", "sends"] (spI (XRm mg) C frRule (acons (fz tTxt) (acons (fz (tLst (tP2 tTxt tTxt))) (acons (fz (tLst (tP2 tTxt tTxt))) (acons (fz (tLst tTxt)) (acons (fz (tLst (tP2 tTxt tTxt))) (acons (fz (tLst (tP2 tTxt tTxt))) (acons (fz (tLst (tP2 tTxt tTxt))) (acons (fz (tLst (tP2 tTxt tTxt))) anil)))))))) m_Rule) :=
  fn_okK O.F sc_Rule rfl rfl (fun ad => (st_cons (st_cons (st_cons (st_cons (st_cons (st_cons (st_cons (st_cons (st_cons (st_nil any_nil))))))))))) (fun ad => (fall_ini At.z)) (fun ad cdv A outer s H E hr =>
    (ss_cons (sm_fldNew rfl (.inl rfl) At.z (em_var rfl (.inl rfl) (At.s At.z)) O.cl NRule.name (by show 0 < 1000; decide)) (ss_cons (sm_fldNew rfl (.inl rfl) At.z (em_call (takes_of rfl rfl rfl rfl) G_pairs_of (hr.mono (by decide)) (by rfl) D_pairs_of.g D_pairs_of.F.kp D_pairs_of.b (am_cons (em_var rfl (.inl rfl) (At.s (At.s At.z))) am_nil)) O.cl NRule.actors (by show 1 < 1000; decide)) (ss_cons (sm_fldNew rfl (.inl rfl) At.z (em_call (takes_of rfl rfl rfl rfl) G_pairs_of (hr.mono (by decide)) (by rfl) D_pairs_of.g D_pairs_of.F.kp D_pairs_of.b (am_cons (em_var rfl (.inl rfl) (At.s (At.s (At.s At.z)))) am_nil)) O.cl NRule.everyone (by show 2 < 1000; decide)) (ss_cons (sm_fldNew rfl (.inl rfl) At.z (em_tupL (by rfl) U.tuple (em_var rfl (.inl rfl) (At.s (At.s (At.s (At.s At.z)))))) O.cl NRule.born (by show 3 < 1000; decide)) (ss_cons (sm_fldNew rfl (.inl rfl) At.z (em_call (takes_of rfl rfl rfl rfl) G_pairs_of (hr.mono (by decide)) (by rfl) D_pairs_of.g D_pairs_of.F.kp D_pairs_of.b (am_cons (em_var rfl (.inl rfl) (At.s (At.s (At.s (At.s (At.s At.z)))))) am_nil)) O.cl NRule.conditions (by show 4 < 1000; decide)) (ss_cons (sm_fldNew rfl (.inl rfl) At.z (em_call (takes_of rfl rfl rfl rfl) G_pairs_of (hr.mono (by decide)) (by rfl) D_pairs_of.g D_pairs_of.F.kp D_pairs_of.b (am_cons (em_var rfl (.inl rfl) (At.s (At.s (At.s (At.s (At.s (At.s At.z))))))) am_nil)) O.cl NRule.effects (by show 5 < 1000; decide)) (ss_cons (sm_fldNew rfl (.inl rfl) At.z (em_call (takes_of rfl rfl rfl rfl) G_pairs_of (hr.mono (by decide)) (by rfl) D_pairs_of.g D_pairs_of.F.kp D_pairs_of.b (am_cons (em_var rfl (.inl rfl) (At.s (At.s (At.s (At.s (At.s (At.s (At.s At.z)))))))) am_nil)) O.cl NRule.hears (by show 6 < 1000; decide)) (ss_one (sm_fldNew rfl (.inl rfl) At.z (em_call (takes_of rfl rfl rfl rfl) G_pairs_of (hr.mono (by decide)) (by rfl) D_pairs_of.g D_pairs_of.F.kp D_pairs_of.b (am_cons (em_var rfl (.inl rfl) (At.s (At.s (At.s (At.s (At.s (At.s (At.s (At.s At.z))))))))) am_nil)) O.cl NRule.sends (by show 7 < 1000; decide)))))))))))
/-! ### are_different -/
noncomputable def m_are_different : (List (List Nat)) × Unit → Res Bool := kRun (S := (List (List Nat)) × Unit) (S' := Unit) (L := Unit) (kRet (kCmp mEq (kU mDiff (kV gZ)) (kF (fun x => (x.length : Int)) (kV gZ)))) (iS (iZ ())) (fun _ => .bad)
abbrev s_are_different : Stmt := (topS 11)
theorem sc_are_different : FnScope ["names"] ["names"] (defScope s_are_different) := ⟨rfl, rfl, rfl, by decide +kernel, rfl, by decide +kernel, by decide +kernel⟩
theorem ok_are_different {f : Addr} {fd : FuncData} (D : DefAt K mg "are_different" s_are_different ["names"] f fd) (U : Uses K mg)  : FnOk P w K mg base (L2.CX P w) 1 f fd ["names"] (spP (XRm mg) (acons (fz (tLst tTxt)) anil) (fz tBool) m_are_different) :=
  fn_okK (G1 := fun _ => gnil) D.F sc_are_different rfl rfl (fun _ => (st_cons (st_nil any_nil))) (fun _ => fall_bad) (fun _ cdv A outer s H E hr =>
    (ss_one (sm_retP (em_c (cm_eqS scInt) (nomark _) (em_lenSetL setTxt rfl (by rfl) U.len (by rfl) U.set (em_var rfl (.inl rfl) At.z)) (em_len (by rfl) U.len (em_var rfl (.inl rfl) At.z))))))
/-! ### are_names -/
noncomputable def m_are_names : (List (List Nat)) × Unit → Res Bool := kRun (S := (List (List Nat)) × (List Nat) × Unit) (S' := Unit) (L := Unit) (kSeq (kFor (kV gZ) (pS pZ) (kSeq (kIf (kF (fun x => !x) (kU m_is_name (kPair (kV (gS gZ)) kU0))) (kRet (kC false)) kNx) kNx)) (kRet (kU m_are_different (kPair (kV gZ) kU0)))) (iS (iZ ([], ()))) (fun _ => .bad)
noncomputable def l_are_names_1 : ((List (List Nat)) × (List Nat) × Unit) → Out ((List (List Nat)) × (List Nat) × Unit) ((List (List Nat)) × (List Nat) × Unit) Bool := (kSeq (kIf (kF (fun x => !x) (kU m_is_name (kPair (kV (gS gZ)) kU0))) (kRet (kC false)) kNx) kNx)
theorem n_are_names : m_are_names = kRun (S := (List (List Nat)) × (List Nat) × Unit) (S' := Unit) (L := Unit) (kSeq (kFor (kV gZ) (pS pZ) l_are_names_1) (kRet (kU m_are_different (kPair (kV gZ) kU0)))) (iS (iZ ([], ()))) (fun _ => .bad) := rfl
abbrev s_are_names : Stmt := (topS 12)
theorem sc_are_names : FnScope ["words", "word"] ["words"] (defScope s_are_names) := ⟨rfl, rfl, rfl, by decide +kernel, rfl, by decide +kernel, by decide +kernel⟩
theorem ok_are_names {f : Addr} {fd : FuncData} (D : DefAt K mg "are_names" s_are_names ["words"] f fd) (U : Uses K mg) {f_are_different : Addr} {fd_are_different : FuncData} (D_are_different : DefAt K mg "are_different" s_are_different ["names"] f_are_different fd_are_different) (G_are_different : FnOk P w K mg base (L2.CX P w) 1 f_are_different fd_are_different ["names"] (spP (XRm mg) (acons (fz (tLst tTxt)) anil) (fz tBool) m_are_different)) {f_is_name : Addr} {fd_is_name : FuncData} (D_is_name : DefAt K mg "is_name" s_is_name ["word"] f_is_name fd_is_name) (G_is_name : FnOk P w K mg base (L2.CX P w) 1 f_is_name fd_is_name ["word"] (spP (XRm mg) (acons (fz tTxt) anil) (fz tBool) m_is_name)) : FnOk P w K mg base (L2.CX P w) 2 f fd ["words"] (spP (XRm mg) (acons (fz (tLst tTxt)) anil) (fz tBool) m_are_names) :=
  fn_okK (G1 := fun _ => gnil) D.F sc_are_names rfl rfl (fun _ => (st_cons (st_nil (any_cons any_nil)))) (fun _ => fall_bad) (fun _ cdv A outer s H E hr =>
    (ss_cons (sm_forI (passes_of rfl) rfl (im_list (em_var rfl (.inl rfl) At.z)) MvI.refl (tgt_name sc_are_names.nd rfl (.inl rfl) (At.s At.z) (.inl rfl)) (ss_cons (sm_if (tm_not (tm_val (em_call (takes_of rfl rfl rfl rfl) G_is_name (hr.mono (by decide)) (by rfl) D_is_name.g D_is_name.F.kp D_is_name.b (am_cons (em_var rfl (.inl rfl) (At.s At.z)) am_nil)))) (ss_one (sm_retP em_bool)) (ss_nilI MvI.refl)) (ss_nilI (MvI.cons SMvI.refl (MvI.cons SMvI.hide MvI.refl))))) (ss_one (sm_retP (em_call (takes_of rfl rfl rfl rfl) G_are_different (hr.mono (by decide)) (by rfl) D_are_different.g D_are_different.F.kp D_are_different.b (am_cons (em_var rfl (.inl rfl) At.z) am_nil))))))
/-! ### right_moves -/
noncomputable def m_right_moves : (List ((List Nat) × (List Nat))) × (List (List Nat)) × Unit → Res Bool := kRun (S := (List ((List Nat) × (List Nat))) × (List (List Nat)) × (List Nat) × (List Nat) × Unit) (S' := Unit) (L := Unit) (kSeq (kFor (kV gZ) (pP (pS (pS pZ)) (pS (pS (pS pZ)))) (kSeq (kIf (kOr (kCmp mNin (kV (gS (gS gZ))) (kV (gS gZ))) (kAnd (kCmp mNin (kV (gS (gS (gS gZ)))) (kV (gS gZ))) (kCmp mNe (kV (gS (gS (gS gZ)))) (kC ([103, 111, 110, 101] : List Nat))))) (kRet (kC false)) kNx) kNx)) (kRet (kC true))) (iS (iS (iZ ([], [], ())))) (fun _ => .bad)
noncomputable def l_right_moves_1 : ((List ((List Nat) × (List Nat))) × (List (List Nat)) × (List Nat) × (List Nat) × Unit) → Out ((List ((List Nat) × (List Nat))) × (List (List Nat)) × (List Nat) × (List Nat) × Unit) ((List ((List Nat) × (List Nat))) × (List (List Nat)) × (List Nat) × (List Nat) × Unit) Bool := (kSeq (kIf (kOr (kCmp mNin (kV (gS (gS gZ))) (kV (gS gZ))) (kAnd (kCmp mNin (kV (gS (gS (gS gZ)))) (kV (gS gZ))) (kCmp mNe (kV (gS (gS (gS gZ)))) (kC ([103, 111, 110, 101] : List Nat))))) (kRet (kC false)) kNx) kNx)
theorem n_right_moves : m_right_moves = kRun (S := (List ((List Nat) × (List Nat))) × (List (List Nat)) × (List Nat) × (List Nat) × Unit) (S' := Unit) (L := Unit) (kSeq (kFor (kV gZ) (pP (pS (pS pZ)) (pS (pS (pS pZ)))) l_right_moves_1) (kRet (kC true))) (iS (iS (iZ ([], [], ())))) (fun _ => .bad) := rfl
abbrev s_right_moves : Stmt := (topS 13)
theorem sc_right_moves : FnScope ["pairs", "states", "first", "second"] ["pairs", "states"] (defScope s_right_moves) := ⟨rfl, rfl, rfl, by decide +kernel, rfl, by decide +kernel, by decide +kernel⟩
theorem ok_right_moves {f : Addr} {fd : FuncData} (D : DefAt K mg "right_moves" s_right_moves ["pairs", "states"] f fd) (U : Uses K mg)  : FnOk P w K mg base (L2.CX P w) 1 f fd ["pairs", "states"] (spP (XRm mg) (acons (fz (tTup (tP2 tTxt tTxt))) (acons (fz (tLst tTxt)) anil)) (fz tBool) m_right_moves) :=
  fn_okK (G1 := fun _ => gnil) D.F sc_right_moves rfl rfl (fun _ => (st_cons (st_cons (st_nil (any_cons (any_cons any_nil)))))) (fun _ => fall_bad) (fun _ cdv A outer s H E hr =>
    (ss_cons (sm_forI (passes_of rfl) rfl (im_tup (em_var rfl (.inl rfl) At.z)) MvI.refl (tgt_pair rfl sc_right_moves.nd rfl (.inl rfl) rfl (.inl rfl) (At.s (At.s At.z)) (At.s (At.s (At.s At.z))) (fun h h2 => pg_tup rfl (pgs_cons h (pgs_cons h2 pgs_nil))) (.inl rfl) (.inl rfl)) (ss_cons (sm_if (tm_b (bm_or (tm_c (cm_ninL scTxt) (by rfl) (em_var rfl (.inl rfl) (At.s (At.s At.z))) (em_var rfl (.inl rfl) (At.s At.z))) (bm_or1 (tm_b (bm_and (tm_c (cm_ninL scTxt) (by rfl) (em_var rfl (.inl rfl) (At.s (At.s (At.s At.z)))) (em_var rfl (.inl rfl) (At.s At.z))) (bm_and1 (tm_c (cm_neS scTxt) (nomark _) (em_var rfl (.inl rfl) (At.s (At.s (At.s At.z)))) (em_globS (l := ([103, 111, 110, 101] : List Nat)) (by rfl) U.GONE (by decide +kernel) (by decide))))))))) (ss_one (sm_retP em_bool)) (ss_nilI MvI.refl)) (ss_nilI (MvI.cons SMvI.refl (MvI.cons SMvI.refl (MvI.cons SMvI.hide (MvI.cons SMvI.hide MvI.refl))))))) (ss_one (sm_retP em_bool))))
/-! ### right_values -/
noncomputable def m_right_values : (List ((List Nat) × (List Nat))) × (List ((List Nat) × (List (List Nat)))) × Unit → Res Bool := kRun (S := (List ((List Nat) × (List Nat))) × (List ((List Nat) × (List (List Nat)))) × (List Nat) × (List Nat) × (List (List (List Nat))) × (List Nat) × (List (List Nat)) × (List Nat) × Unit) (S' := Unit) (L := Unit) (kSeq (kFor (kV gZ) (pP (pS (pS pZ)) (pS (pS (pS pZ)))) (kSeq (kSet (kLcIf (kV (gS gZ)) (pP (pS (pS (pS (pS (pS pZ))))) (pS (pS (pS (pS (pS (pS pZ))))))) (kCmp mEq (kV (gS (gS (gS (gS (gS gZ)))))) (kV (gS (gS gZ)))) (kV (gS (gS (gS (gS (gS (gS gZ)))))))) (pS (pS (pS (pS pZ))))) (kSeq (kIf (kOr (kCmp mEq (kLenO (gS (gS (gS (gS gZ))))) (kC (0 : Int))) (kCmp mNin (kV (gS (gS (gS gZ)))) (kIxO (gS (gS (gS (gS gZ)))) (kC (0 : Int))))) (kRet (kC false)) kNx) kNx))) (kRet (kU m_are_different (kPair (kLc (kV gZ) (pP (pS (pS pZ)) (pS (pS (pS (pS (pS (pS (pS pZ)))))))) (kV (gS (gS gZ)))) kU0)))) (iS (iS (iZ ([], [], [], [], [], [], ())))) (fun _ => .bad)
noncomputable def l_right_values_1 : ((List ((List Nat) × (List Nat))) × (List ((List Nat) × (List (List Nat)))) × (List Nat) × (List Nat) × (List (List (List Nat))) × (List Nat) × (List (List Nat)) × (List Nat) × Unit) → Out ((List ((List Nat) × (List Nat))) × (List ((List Nat) × (List (List Nat)))) × (List Nat) × (List Nat) × (List (List (List Nat))) × (List Nat) × (List (List Nat)) × (List Nat) × Unit) ((List ((List Nat) × (List Nat))) × (List ((List Nat) × (List (List Nat)))) × (List Nat) × (List Nat) × (List (List (List Nat))) × (List Nat) × (List (List Nat)) × (List Nat) × Unit) Bool := (kSeq (kSet (kLcIf (kV (gS gZ)) (pP (pS (pS (pS (pS (pS pZ))))) (pS (pS (pS (pS (pS (pS pZ))))))) (kCmp mEq (kV (gS (gS (gS (gS (gS gZ)))))) (kV (gS (gS gZ)))) (kV (gS (gS (gS (gS (gS (gS gZ)))))))) (pS (pS (pS (pS pZ))))) (kSeq (kIf (kOr (kCmp mEq (kLenO (gS (gS (gS (gS gZ))))) (kC (0 : Int))) (kCmp mNin (kV (gS (gS (gS gZ)))) (kIxO (gS (gS (gS (gS gZ)))) (kC (0 : Int))))) (kRet (kC false)) kNx) kNx))
theorem n_right_values : m_right_values = kRun (S := (List ((List Nat) × (List Nat))) × (List ((List Nat) × (List (List Nat)))) × (List Nat) × (List Nat) × (List (List (List Nat))) × (List Nat) × (List (List Nat)) × (List Nat) × Unit) (S' := Unit) (L := Unit) (kSeq (kFor (kV gZ) (pP (pS (pS pZ)) (pS (pS (pS pZ)))) l_right_values_1) (kRet (kU m_are_different (kPair (kLc (kV gZ) (pP (pS (pS pZ)) (pS (pS (pS (pS (pS (pS (pS pZ)))))))) (kV (gS (gS gZ)))) kU0)))) (iS (iS (iZ ([], [], [], [], [], [], ())))) (fun _ => .bad) := rfl
abbrev s_right_values : Stmt := (topS 14)
theorem sc_right_values : FnScope ["pairs", "variables", "name", "value", "known", "variable", "values", "_"] ["pairs", "variables"] (defScope s_right_values) := ⟨rfl, rfl, rfl, by decide +kernel, rfl, by decide +kernel, by decide +kernel⟩
theorem ok_right_values {f : Addr} {fd : FuncData} (D : DefAt K mg "right_values" s_right_values ["pairs", "variables"] f fd) (U : Uses K mg) {f_are_different : Addr} {fd_are_different : FuncData} (D_are_different : DefAt K mg "are_different" s_are_different ["names"] f_are_different fd_are_different) (G_are_different : FnOk P w K mg base (L2.CX P w) 1 f_are_different fd_are_different ["names"] (spP (XRm mg) (acons (fz (tLst tTxt)) anil) (fz tBool) m_are_different)) : FnOk P w K mg base (L2.CX P w) 2 f fd ["pairs", "variables"] (spP (XRm mg) (acons (fz (tTup (tP2 tTxt tTxt))) (acons (fz (tLst (tP2 tTxt (tLst tTxt)))) anil)) (fz tBool) m_right_values) :=
  fn_okK (G1 := fun _ => gnil) D.F sc_right_values rfl rfl (fun _ => (st_cons (st_cons (st_nil (any_cons (any_cons (any_cons (any_cons (any_cons (any_cons any_nil)))))))))) (fun _ => fall_bad) (fun _ cdv A outer s H E hr =>
    (ss_cons (sm_forI (passes_of rfl) rfl (im_tup (em_var rfl (.inl rfl) At.z)) MvI.refl (tgt_pair rfl sc_right_values.nd rfl (.inr rfl) rfl (.inl rfl) (At.s (At.s At.z)) (At.s (At.s (At.s At.z))) (fun h h2 => pg_tup rfl (pgs_cons h (pgs_cons h2 pgs_nil))) (.inl rfl) (.inl rfl)) (ss_cons (sm_setLcKIf (own := [("variable", 5), ("values", 6)]) rfl sc_right_values.nd rfl rfl (At.s (At.s (At.s (At.s At.z)))) (sw_true rfl rfl rfl (by decide +kernel)) (im_list (em_var rfl (.inl rfl) (At.s At.z))) (blkOk_by (N := ["pairs", "variables", "name", "value", "known", "variable", "values", "_"]) (sc := (defScope s_right_values)) (by decide +kernel)) (ko_keep (by decide) (ko_keep (by decide) (ko_keep (by decide) (ko_keep (by decide) (ko_any (ko_any (ko_any (ko_any ko_nil)))))))) (fun _ _ _ _ _ => (tgt_pair rfl sc_right_values.nd rfl (.inl (by rfl)) rfl (.inl (by rfl)) (At.s (At.s (At.s (At.s (At.s At.z))))) (At.s (At.s (At.s (At.s (At.s (At.s At.z)))))) (fun h h2 => pg_tup rfl (pgs_cons h (pgs_cons h2 pgs_nil))) (.inr (by rfl)) (.inr (by rfl)))) (fun _ _ _ _ _ => (tm_c (cm_eqS scTxt) (nomark _) (em_var rfl (.inl (by rfl)) (At.s (At.s (At.s (At.s (At.s At.z)))))) (em_var rfl (by first | exact .inr (.inr rfl) | exact .inr (.inl rfl)) (At.s (At.s At.z))))) (fun _ _ _ _ _ => (em_var rfl (.inl (by rfl)) (At.s (At.s (At.s (At.s (At.s (At.s At.z)))))))) (bi_cons (bi_cons (bi_cons (bi_cons (bi_cons (bi_any (bi_any bi_refl)))))))) (ss_cons (sm_if (tm_b (bm_or (tm_c (cm_eqS scInt) (nomark _) (em_lenO (by rfl) U.len rfl (.inl rfl) (At.s (At.s (At.s (At.s At.z))))) em_int) (bm_or1 (tm_c (cm_ninL scTxt) (by rfl) (em_var rfl (.inl rfl) (At.s (At.s (At.s At.z)))) (em_ixO rfl (.inl rfl) (At.s (At.s (At.s (At.s At.z)))) (fun _ _ => rfl) em_int))))) (ss_one (sm_retP em_bool)) (ss_nilI MvI.refl)) (ss_nilI (MvI.cons SMvI.refl (MvI.cons SMvI.refl (MvI.cons SMvI.hide (MvI.cons SMvI.hide (MvI.cons SMvI.hide MvI.refl))))))))) (ss_one (sm_retP (em_call (takes_of rfl rfl rfl rfl) G_are_different (hr.mono (by decide)) (by rfl) D_are_different.g D_are_different.F.kp D_are_different.b (am_cons (em_freeze (em_lcK (own := [("name", 2), ("_", 7)]) rfl sc_right_values.nd (im_tup (em_var rfl (.inl rfl) At.z)) (blkOk_by (N := ["pairs", "variables", "name", "value", "known", "variable", "values", "_"]) (sc := (defScope s_right_values)) (by decide +kernel)) (ko_keep (by decide) (ko_keep (by decide) (ko_any (ko_any (ko_any (ko_any (ko_any (ko_any ko_nil)))))))) (fun _ _ _ _ _ => (tgt_pair rfl sc_right_values.nd rfl (.inl (by rfl)) rfl (.inl (by rfl)) (At.s (At.s At.z)) (At.s (At.s (At.s (At.s (At.s (At.s (At.s At.z))))))) (fun h h2 => pg_tup rfl (pgs_cons h (pgs_cons h2 pgs_nil))) (.inr (by rfl)) (.inr (by rfl)))) (fun _ _ _ _ _ => (em_var rfl (.inl (by rfl)) (At.s (At.s At.z)))) (bi_cons (bi_cons (bi_any (bi_cons (bi_cons (bi_cons (bi_cons (bi_any bi_refl)))))))))) am_nil))))))
/-! ### right_values@l -/
noncomputable def m_right_values_l : (List ((List Nat) × (List Nat))) × (List ((List Nat) × (List (List Nat)))) × Unit → Res Bool := kRun (S := (List ((List Nat) × (List Nat))) × (List ((List Nat) × (List (List Nat)))) × (List Nat) × (List Nat) × (List (List (List Nat))) × (List Nat) × (List (List Nat)) × (List Nat) × Unit) (S' := Unit) (L := Unit) (kSeq (kFor (kV gZ) (pP (pS (pS pZ)) (pS (pS (pS pZ)))) (kSeq (kSet (kLcIf (kV (gS gZ)) (pP (pS (pS (pS (pS (pS pZ))))) (pS (pS (pS (pS (pS (pS pZ))))))) (kCmp mEq (kV (gS (gS (gS (gS (gS gZ)))))) (kV (gS (gS gZ)))) (kV (gS (gS (gS (gS (gS (gS gZ)))))))) (pS (pS (pS (pS pZ))))) (kSeq (kIf (kOr (kCmp mEq (kLenO (gS (gS (gS (gS gZ))))) (kC (0 : Int))) (kCmp mNin (kV (gS (gS (gS gZ)))) (kIxO (gS (gS (gS (gS gZ)))) (kC (0 : Int))))) (kRet (kC false)) kNx) kNx))) (kRet (kU m_are_different (kPair (kLc (kV gZ) (pP (pS (pS pZ)) (pS (pS (pS (pS (pS (pS (pS pZ)))))))) (kV (gS (gS gZ)))) kU0)))) (iS (iS (iZ ([], [], [], [], [], [], ())))) (fun _ => .bad)
noncomputable def l_right_values_l_1 : ((List ((List Nat) × (List Nat))) × (List ((List Nat) × (List (List Nat)))) × (List Nat) × (List Nat) × (List (List (List Nat))) × (List Nat) × (List (List Nat)) × (List Nat) × Unit) → Out ((List ((List Nat) × (List Nat))) × (List ((List Nat) × (List (List Nat)))) × (List Nat) × (List Nat) × (List (List (List Nat))) × (List Nat) × (List (List Nat)) × (List Nat) × Unit) ((List ((List Nat) × (List Nat))) × (List ((List Nat) × (List (List Nat)))) × (List Nat) × (List Nat) × (List (List (List Nat))) × (List Nat) × (List (List Nat)) × (List Nat) × Unit) Bool := (kSeq (kSet (kLcIf (kV (gS gZ)) (pP (pS (pS (pS (pS (pS pZ))))) (pS (pS (pS (pS (pS (pS pZ))))))) (kCmp mEq (kV (gS (gS (gS (gS (gS gZ)))))) (kV (gS (gS gZ)))) (kV (gS (gS (gS (gS (gS (gS gZ)))))))) (pS (pS (pS (pS pZ))))) (kSeq (kIf (kOr (kCmp mEq (kLenO (gS (gS (gS (gS gZ))))) (kC (0 : Int))) (kCmp mNin (kV (gS (gS (gS gZ)))) (kIxO (gS (gS (gS (gS gZ)))) (kC (0 : Int))))) (kRet (kC false)) kNx) kNx))
theorem n_right_values_l : m_right_values_l = kRun (S := (List ((List Nat) × (List Nat))) × (List ((List Nat) × (List (List Nat)))) × (List Nat) × (List Nat) × (List (List (List Nat))) × (List Nat) × (List (List Nat)) × (List Nat) × Unit) (S' := Unit) (L := Unit) (kSeq (kFor (kV gZ) (pP (pS (pS pZ)) (pS (pS (pS pZ)))) l_right_values_l_1) (kRet (kU m_are_different (kPair (kLc (kV gZ) (pP (pS (pS pZ)) (pS (pS (pS (pS (pS (pS (pS pZ)))))))) (kV (gS (gS gZ)))) kU0)))) (iS (iS (iZ ([], [], [], [], [], [], ())))) (fun _ => .bad) := rfl
theorem ok_right_values_l {f : Addr} {fd : FuncData} (D : DefAt K mg "right_values" s_right_values ["pairs", "variables"] f fd) (U : Uses K mg) {f_are_different : Addr} {fd_are_different : FuncData} (D_are_different : DefAt K mg "are_different" s_are_different ["names"] f_are_different fd_are_different) (G_are_different : FnOk P w K mg base (L2.CX P w) 1 f_are_different fd_are_different ["names"] (spP (XRm mg) (acons (fz (tLst tTxt)) anil) (fz tBool) m_are_different)) : FnOk P w K mg base (L2.CX P w) 2 f fd ["pairs", "variables"] (spP (XRm mg) (acons (fz (tLst (tP2 tTxt tTxt))) (acons (fz (tLst (tP2 tTxt (tLst tTxt)))) anil)) (fz tBool) m_right_values_l) :=
  fn_okK (G1 := fun _ => gnil) D.F sc_right_values rfl rfl (fun _ => (st_cons (st_cons (st_nil (any_cons (any_cons (any_cons (any_cons (any_cons (any_cons any_nil)))))))))) (fun _ => fall_bad) (fun _ cdv A outer s H E hr =>
    (ss_cons (sm_forI (passes_of rfl) rfl (im_list (em_var rfl (.inl rfl) At.z)) MvI.refl (tgt_pair rfl sc_right_values.nd rfl (.inr rfl) rfl (.inl rfl) (At.s (At.s At.z)) (At.s (At.s (At.s At.z))) (fun h h2 => pg_tup rfl (pgs_cons h (pgs_cons h2 pgs_nil))) (.inl rfl) (.inl rfl)) (ss_cons (sm_setLcKIf (own := [("variable", 5), ("values", 6)]) rfl sc_right_values.nd rfl rfl (At.s (At.s (At.s (At.s At.z)))) (sw_true rfl rfl rfl (by decide +kernel)) (im_list (em_var rfl (.inl rfl) (At.s At.z))) (blkOk_by (N := ["pairs", "variables", "name", "value", "known", "variable", "values", "_"]) (sc := (defScope s_right_values)) (by decide +kernel)) (ko_keep (by decide) (ko_keep (by decide) (ko_keep (by decide) (ko_keep (by decide) (ko_any (ko_any (ko_any (ko_any ko_nil)))))))) (fun _ _ _ _ _ => (tgt_pair rfl sc_right_values.nd rfl (.inl (by rfl)) rfl (.inl (by rfl)) (At.s (At.s (At.s (At.s (At.s At.z))))) (At.s (At.s (At.s (At.s (At.s (At.s At.z)))))) (fun h h2 => pg_tup rfl (pgs_cons h (pgs_cons h2 pgs_nil))) (.inr (by rfl)) (.inr (by rfl)))) (fun _ _ _ _ _ => (tm_c (cm_eqS scTxt) (nomark _) (em_var rfl (.inl (by rfl)) (At.s (At.s (At.s (At.s (At.s At.z)))))) (em_var rfl (by first | exact .inr (.inr rfl) | exact .inr (.inl rfl)) (At.s (At.s At.z))))) (fun _ _ _ _ _ => (em_var rfl (.inl (by rfl)) (At.s (At.s (At.s (At.s (At.s (At.s At.z)))))))) (bi_cons (bi_cons (bi_cons (bi_cons (bi_cons (bi_any (bi_any bi_refl)))))))) (ss_cons (sm_if (tm_b (bm_or (tm_c (cm_eqS scInt) (nomark _) (em_lenO (by rfl) U.len rfl (.inl rfl) (At.s (At.s (At.s (At.s At.z))))) em_int) (bm_or1 (tm_c (cm_ninL scTxt) (by rfl) (em_var rfl (.inl rfl) (At.s (At.s (At.s At.z)))) (em_ixO rfl (.inl rfl) (At.s (At.s (At.s (At.s At.z)))) (fun _ _ => rfl) em_int))))) (ss_one (sm_retP em_bool)) (ss_nilI MvI.refl)) (ss_nilI (MvI.cons SMvI.refl (MvI.cons SMvI.refl (MvI.cons SMvI.hide (MvI.cons SMvI.hide (MvI.cons SMvI.hide MvI.refl))))))))) (ss_one (sm_retP (em_call (takes_of rfl rfl rfl rfl) G_are_different (hr.mono (by decide)) (by rfl) D_are_different.g D_are_different.F.kp D_are_different.b (am_cons (em_freeze (em_lcK (own := [("name", 2), ("_", 7)]) rfl sc_right_values.nd (im_list (em_var rfl (.inl rfl) At.z)) (blkOk_by (N := ["pairs", "variables", "name", "value", "known", "variable", "values", "_"]) (sc := (defScope s_right_values)) (by decide +kernel)) (ko_keep (by decide) (ko_keep (by decide) (ko_any (ko_any (ko_any (ko_any (ko_any (ko_any ko_nil)))))))) (fun _ _ _ _ _ => (tgt_pair rfl sc_right_values.nd rfl (.inl (by rfl)) rfl (.inl (by rfl)) (At.s (At.s At.z)) (At.s (At.s (At.s (At.s (At.s (At.s (At.s At.z))))))) (fun h h2 => pg_tup rfl (pgs_cons h (pgs_cons h2 pgs_nil))) (.inr (by rfl)) (.inr (by rfl)))) (fun _ _ _ _ _ => (em_var rfl (.inl (by rfl)) (At.s (At.s At.z)))) (bi_cons (bi_cons (bi_any (bi_cons (bi_cons (bi_cons (bi_cons (bi_any bi_refl)))))))))) am_nil))))))
/-! ### right_states -/
noncomputable def m_right_states : (List (List Nat)) × (List Nat) × Unit → Res Bool := kRun (S := (List (List Nat)) × (List Nat) × Unit) (S' := Unit) (L := Unit) (kRet (kAnd (kChain mLe mLe (kC (1 : Int)) (kF (fun x => (x.length : Int)) (kV gZ)) (kC (6 : Int))) (kAnd (kU m_are_names (kPair (kV gZ) kU0)) (kCmp mIn (kV (gS gZ)) (kV gZ))))) (iS (iS (iZ ()))) (fun _ => .bad)
abbrev s_right_states : Stmt := (topS 15)
theorem sc_right_states : FnScope ["states", "start"] ["states", "start"] (defScope s_right_states) := ⟨rfl, rfl, rfl, by decide +kernel, rfl, by decide +kernel, by decide +kernel⟩
theorem ok_right_states {f : Addr} {fd : FuncData} (D : DefAt K mg "right_states" s_right_states ["states", "start"] f fd) (U : Uses K mg) {f_are_names : Addr} {fd_are_names : FuncData} (D_are_names : DefAt K mg "are_names" s_are_names ["words"] f_are_names fd_are_names) (G_are_names : FnOk P w K mg base (L2.CX P w) 2 f_are_names fd_are_names ["words"] (spP (XRm mg) (acons (fz (tLst tTxt)) anil) (fz tBool) m_are_names)) : FnOk P w K mg base (L2.CX P w) 3 f fd ["states", "start"] (spP (XRm mg) (acons (fz (tLst tTxt)) (acons (fz tTxt) anil)) (fz tBool) m_right_states) :=
  fn_okK (G1 := fun _ => gnil) D.F sc_right_states rfl rfl (fun _ => (st_cons (st_cons (st_nil any_nil)))) (fun _ => fall_bad) (fun _ cdv A outer s H E hr =>
    (ss_one (sm_retP (em_and (em_chain2 cm_le cm_le em_int (em_len (by rfl) U.len (em_var rfl (.inl rfl) At.z)) em_int) (em_and (em_call (takes_of rfl rfl rfl rfl) G_are_names (hr.mono (by decide)) (by rfl) D_are_names.g D_are_names.F.kp D_are_names.b (am_cons (em_var rfl (.inl rfl) At.z) am_nil)) (em_one (em_c (cm_inL scTxt) (by rfl) (em_var rfl (.inl rfl) (At.s At.z)) (em_var rfl (.inl rfl) At.z))))))))
/-! ### right_variable -/
noncomputable def m_right_variable : (List (List Nat)) × (List ((List Nat) × (List (List Nat)))) × (List Nat) × (List (List Nat)) × Unit → Res Bool := kRun (S := (List (List Nat)) × (List ((List Nat) × (List (List Nat)))) × (List Nat) × (List (List Nat)) × (List Nat) × (List (List Nat)) × Unit) (S' := Unit) (L := Unit) (kSeq (kIf (kOr (kCmp mGe (kF (fun x => (x.length : Int)) (kV (gS gZ))) (kC (2 : Int))) (kOr (kF (fun x => !x) (kU m_is_name (kPair (kV (gS (gS gZ))) kU0))) (kCmp mIn (kV (gS (gS gZ))) (kV gZ)))) (kRet (kC false)) kNx) (kSeq (kIf (kCmp mIn (kV (gS (gS gZ))) (kLc (kV (gS gZ)) (pP (pS (pS (pS (pS pZ)))) (pS (pS (pS (pS (pS pZ)))))) (kV (gS (gS (gS (gS gZ))))))) (kRet (kC false)) kNx) (kRet (kAnd (kChain mLe mLe (kC (2 : Int)) (kF (fun x => (x.length : Int)) (kV (gS (gS (gS gZ))))) (kC (3 : Int))) (kU m_are_names (kPair (kV (gS (gS (gS gZ)))) kU0)))))) (iS (iS (iS (iS (iZ ([], [], ())))))) (fun _ => .bad)
abbrev s_right_variable : Stmt := (topS 16)
theorem sc_right_variable : FnScope ["states", "earlier", "name", "values", "variable", "_"] ["states", "earlier", "name", "values"] (defScope s_right_variable) := ⟨rfl, rfl, rfl, by decide +kernel, rfl, by decide +kernel, by decide +kernel⟩
theorem ok_right_variable {f : Addr} {fd : FuncData} (D : DefAt K mg "right_variable" s_right_variable ["states", "earlier", "name", "values"] f fd) (U : Uses K mg) {f_are_names : Addr} {fd_are_names : FuncData} (D_are_names : DefAt K mg "are_names" s_are_names ["words"] f_are_names fd_are_names) (G_are_names : FnOk P w K mg base (L2.CX P w) 2 f_are_names fd_are_names ["words"] (spP (XRm mg) (acons (fz (tLst tTxt)) anil) (fz tBool) m_are_names)) {f_is_name : Addr} {fd_is_name : FuncData} (D_is_name : DefAt K mg "is_name" s_is_name ["word"] f_is_name fd_is_name) (G_is_name : FnOk P w K mg base (L2.CX P w) 1 f_is_name fd_is_name ["word"] (spP (XRm mg) (acons (fz tTxt) anil) (fz tBool) m_is_name)) : FnOk P w K mg base (L2.CX P w) 3 f fd ["states", "earlier", "name", "values"] (spP (XRm mg) (acons (fz (tLst tTxt)) (acons (fz (tLst (tP2 tTxt (tLst tTxt)))) (acons (fz tTxt) (acons (fz (tLst tTxt)) anil)))) (fz tBool) m_right_variable) :=
  fn_okK (G1 := fun _ => gnil) D.F sc_right_variable rfl rfl (fun _ => (st_cons (st_cons (st_cons (st_cons (st_nil (any_cons (any_cons any_nil)))))))) (fun _ => fall_bad) (fun _ cdv A outer s H E hr =>
    (ss_cons (sm_if (tm_b (bm_or (tm_c cm_ge (nomark _) (em_len (by rfl) U.len (em_var rfl (.inl rfl) (At.s At.z))) em_int) (bm_or (tm_not (tm_val (em_call (takes_of rfl rfl rfl rfl) G_is_name (hr.mono (by decide)) (by rfl) D_is_name.g D_is_name.F.kp D_is_name.b (am_cons (em_var rfl (.inl rfl) (At.s (At.s At.z))) am_nil)))) (bm_or1 (tm_c (cm_inL scTxt) (by rfl) (em_var rfl (.inl rfl) (At.s (At.s At.z))) (em_var rfl (.inl rfl) At.z)))))) (ss_one (sm_retP em_bool)) (ss_nilI MvI.refl)) (ss_cons (sm_if (tm_c (cm_inL scTxt) (by rfl) (em_var rfl (.inl rfl) (At.s (At.s At.z))) (em_freeze (em_lcK (own := [("variable", 4), ("_", 5)]) rfl sc_right_variable.nd (im_list (em_var rfl (.inl rfl) (At.s At.z))) (blkOk_by (N := ["states", "earlier", "name", "values", "variable", "_"]) (sc := (defScope s_right_variable)) (by decide +kernel)) (ko_keep (by decide) (ko_keep (by decide) (ko_keep (by decide) (ko_keep (by decide) (ko_any (ko_any ko_nil)))))) (fun _ _ _ _ _ => (tgt_pair rfl sc_right_variable.nd rfl (.inl (by rfl)) rfl (.inl (by rfl)) (At.s (At.s (At.s (At.s At.z)))) (At.s (At.s (At.s (At.s (At.s At.z))))) (fun h h2 => pg_tup rfl (pgs_cons h (pgs_cons h2 pgs_nil))) (.inr (by rfl)) (.inr (by rfl)))) (fun _ _ _ _ _ => (em_var rfl (.inl (by rfl)) (At.s (At.s (At.s (At.s At.z)))))) (bi_cons (bi_cons (bi_cons (bi_cons (bi_any (bi_any bi_refl))))))))) (ss_one (sm_retP em_bool)) (ss_nilI MvI.refl)) (ss_one (sm_retP (em_and (em_chain2 cm_le cm_le em_int (em_len (by rfl) U.len (em_var rfl (.inl rfl) (At.s (At.s (At.s At.z))))) em_int) (em_one (em_call (takes_of rfl rfl rfl rfl) G_are_names (hr.mono (by decide)) (by rfl) D_are_names.g D_are_names.F.kp D_are_names.b (am_cons (em_var rfl (.inl rfl) (At.s (At.s (At.s At.z)))) am_nil)))))))))
/-! ### right_channel -/
noncomputable def m_right_channel : (List (List Nat)) × (List ((List Nat) × (List (List Nat)))) × (List ((List Nat) × (List (List Nat)))) × (List Nat) × (List (List Nat)) × Unit → Res Bool := kRun (S := (List (List Nat)) × (List ((List Nat) × (List (List Nat)))) × (List ((List Nat) × (List (List Nat)))) × (List Nat) × (List (List Nat)) × (List Nat) × (List (List Nat)) × Unit) (S' := Unit) (L := Unit) (kSeq (kIf (kOr (kCmp mGe (kF (fun x => (x.length : Int)) (kV (gS (gS gZ)))) (kC (2 : Int))) (kOr (kF (fun x => !x) (kU m_is_name (kPair (kV (gS (gS (gS gZ)))) kU0))) (kCmp mIn (kV (gS (gS (gS gZ)))) (kV gZ)))) (kRet (kC false)) kNx) (kSeq (kIf (kCmp mIn (kV (gS (gS (gS gZ)))) (kLc (kB mCat (kU (fun x => .ok x) (kV (gS gZ))) (kU (fun x => .ok x) (kV (gS (gS gZ))))) (pP (pS (pS (pS (pS (pS pZ))))) (pS (pS (pS (pS (pS (pS pZ))))))) (kV (gS (gS (gS (gS (gS gZ)))))))) (kRet (kC false)) kNx) (kRet (kAnd (kChain mLe mLe (kC (1 : Int)) (kF (fun x => (x.length : Int)) (kV (gS (gS (gS (gS gZ)))))) (kC (3 : Int))) (kU m_are_names (kPair (kV (gS (gS (gS (gS gZ))))) kU0)))))) (iS (iS (iS (iS (iS (iZ ([], [], ()))))))) (fun _ => .bad)
abbrev s_right_channel : Stmt := (topS 17)
theorem sc_right_channel : FnScope ["states", "variables", "earlier", "name", "letters", "other", "_"] ["states", "variables", "earlier", "name", "letters"] (defScope s_right_channel) := ⟨rfl, rfl, rfl, by decide +kernel, rfl, by decide +kernel, by decide +kernel⟩
theorem ok_right_channel {f : Addr} {fd : FuncData} (D : DefAt K mg "right_channel" s_right_channel ["states", "variables", "earlier", "name", "letters"] f fd) (U : Uses K mg) {f_are_names : Addr} {fd_are_names : FuncData} (D_are_names : DefAt K mg "are_names" s_are_names ["words"] f_are_names fd_are_names) (G_are_names : FnOk P w K mg base (L2.CX P w) 2 f_are_names fd_are_names ["words"] (spP (XRm mg) (acons (fz (tLst tTxt)) anil) (fz tBool) m_are_names)) {f_is_name : Addr} {fd_is_name : FuncData} (D_is_name : DefAt K mg "is_name" s_is_name ["word"] f_is_name fd_is_name) (G_is_name : FnOk P w K mg base (L2.CX P w) 1 f_is_name fd_is_name ["word"] (spP (XRm mg) (acons (fz tTxt) anil) (fz tBool) m_is_name)) : FnOk P w K mg base (L2.CX P w) 3 f fd ["states", "variables", "earlier", "name", "letters"] (spP (XRm mg) (acons (fz (tLst tTxt)) (acons (fz (tLst (tP2 tTxt (tLst tTxt)))) (acons (fz (tLst (tP2 tTxt (tLst tTxt)))) (acons (fz tTxt) (acons (fz (tLst tTxt)) anil))))) (fz tBool) m_right_channel) :=
  fn_okK (G1 := fun _ => gnil) D.F sc_right_channel rfl rfl (fun _ => (st_cons (st_cons (st_cons (st_cons (st_cons (st_nil (any_cons (any_cons any_nil))))))))) (fun _ => fall_bad) (fun _ cdv A outer s H E hr =>
    (ss_cons (sm_if (tm_b (bm_or (tm_c cm_ge (nomark _) (em_len (by rfl) U.len (em_var rfl (.inl rfl) (At.s (At.s At.z)))) em_int) (bm_or (tm_not (tm_val (em_call (takes_of rfl rfl rfl rfl) G_is_name (hr.mono (by decide)) (by rfl) D_is_name.g D_is_name.F.kp D_is_name.b (am_cons (em_var rfl (.inl rfl) (At.s (At.s (At.s At.z)))) am_nil)))) (bm_or1 (tm_c (cm_inL scTxt) (by rfl) (em_var rfl (.inl rfl) (At.s (At.s (At.s At.z)))) (em_var rfl (.inl rfl) At.z)))))) (ss_one (sm_retP em_bool)) (ss_nilI MvI.refl)) (ss_cons (sm_if (tm_c (cm_inL scTxt) (by rfl) (em_var rfl (.inl rfl) (At.s (At.s (At.s At.z)))) (em_freeze (em_lcK (own := [("other", 5), ("_", 6)]) rfl sc_right_channel.nd (im_list (em_freeze (em_catL (em_freeze (em_listL (by rfl) U.list (em_var rfl (.inl rfl) (At.s At.z)))) (em_freeze (em_listL (by rfl) U.list (em_var rfl (.inl rfl) (At.s (At.s At.z)))))))) (blkOk_by (N := ["states", "variables", "earlier", "name", "letters", "other", "_"]) (sc := (defScope s_right_channel)) (by decide +kernel)) (ko_keep (by decide) (ko_keep (by decide) (ko_keep (by decide) (ko_keep (by decide) (ko_keep (by decide) (ko_any (ko_any ko_nil))))))) (fun _ _ _ _ _ => (tgt_pair rfl sc_right_channel.nd rfl (.inl (by rfl)) rfl (.inl (by rfl)) (At.s (At.s (At.s (At.s (At.s At.z))))) (At.s (At.s (At.s (At.s (At.s (At.s At.z)))))) (fun h h2 => pg_tup rfl (pgs_cons h (pgs_cons h2 pgs_nil))) (.inr (by rfl)) (.inr (by rfl)))) (fun _ _ _ _ _ => (em_var rfl (.inl (by rfl)) (At.s (At.s (At.s (At.s (At.s At.z))))))) (bi_cons (bi_cons (bi_cons (bi_cons (bi_cons (bi_any (bi_any bi_refl)))))))))) (ss_one (sm_retP em_bool)) (ss_nilI MvI.refl)) (ss_one (sm_retP (em_and (em_chain2 cm_le cm_le em_int (em_len (by rfl) U.len (em_var rfl (.inl rfl) (At.s (At.s (At.s (At.s At.z)))))) em_int) (em_one (em_call (takes_of rfl rfl rfl rfl) G_are_names (hr.mono (by decide)) (by rfl) D_are_names.g D_are_names.F.kp D_are_names.b (am_cons (em_var rfl (.inl rfl) (At.s (At.s (At.s (At.s At.z))))) am_nil)))))))))
/-! ### right_rule -/
noncomputable def m_right_rule : (List (List Nat)) × (List ((List Nat) × (List (List Nat)))) × (List ((List Nat) × (List (List Nat)))) × (List RRule) × RRule × Unit → Res Bool := kRun (S := (List (List Nat)) × (List ((List Nat) × (List (List Nat)))) × (List ((List Nat) × (List (List Nat)))) × (List RRule) × RRule × (List Nat) × RRule × (List Nat) × (List Nat) × Unit) (S' := Unit) (L := Unit) (kSeq (kIf (kOr (kCmp mGe (kF (fun x => (x.length : Int)) (kV (gS (gS (gS gZ))))) (kC (8 : Int))) (kOr (kF (fun x => !x) (kU m_is_name (kPair (kF (fun x => x.1.1.1.1.1.1.1.2) (kV (gS (gS (gS (gS gZ)))))) kU0))) (kCmp mIn (kF (fun x => x.1.1.1.1.1.1.1.2) (kV (gS (gS (gS (gS gZ)))))) (kLc (kV (gS (gS (gS gZ)))) (pS (pS (pS (pS (pS (pS pZ)))))) (kF (fun x => x.1.1.1.1.1.1.1.2) (kV (gS (gS (gS (gS (gS (gS gZ)))))))))))) (kRet (kC false)) kNx) (kSeq (kIf (kOr (kF (fun x => !x) (kChain mLe mLe (kC (1 : Int)) (kF (fun x => (x.length : Int)) (kF (fun x => x.1.1.1.1.1.1.2) (kV (gS (gS (gS (gS gZ))))))) (kC (3 : Int)))) (kF (fun x => !x) (kU m_right_moves (kPair (kF (fun x => x.1.1.1.1.1.1.2) (kV (gS (gS (gS (gS gZ)))))) (kPair (kV gZ) kU0))))) (kRet (kC false)) kNx) (kSeq (kIf (kOr (kF (fun x => !x) (kU m_right_moves (kPair (kF (fun x => x.1.1.1.1.1.2) (kV (gS (gS (gS (gS gZ)))))) (kPair (kV gZ) kU0)))) (kF (fun x => !x) (kU m_are_different (kPair (kLc (kF (fun x => x.1.1.1.1.1.2) (kV (gS (gS (gS (gS gZ)))))) (pP (pS (pS (pS (pS (pS (pS (pS pZ))))))) (pS (pS (pS (pS (pS (pS (pS (pS pZ))))))))) (kV (gS (gS (gS (gS (gS (gS (gS gZ))))))))) kU0)))) (kRet (kC false)) kNx) (kSeq (kIf (kCmp mGt (kF (fun x => (x.length : Int)) (kF (fun x => x.1.1.1.1.2) (kV (gS (gS (gS (gS gZ))))))) (kC (3 : Int))) (kRet (kC false)) kNx) (kSeq (kFor (kF (fun x => x.1.1.1.1.2) (kV (gS (gS (gS (gS gZ)))))) (pS (pS (pS (pS (pS pZ))))) (kSeq (kIf (kCmp mNin (kV (gS (gS (gS (gS (gS gZ)))))) (kV gZ)) (kRet (kC false)) kNx) kNx)) (kSeq (kIf (kOr (kF (fun x => !x) (kU m_right_values (kPair (kF (fun x => x.1.1.1.2) (kV (gS (gS (gS (gS gZ)))))) (kPair (kV (gS gZ)) kU0)))) (kF (fun x => !x) (kU m_right_values (kPair (kF (fun x => x.1.1.2) (kV (gS (gS (gS (gS gZ)))))) (kPair (kV (gS gZ)) kU0))))) (kRet (kC false)) kNx) (kRet (kAnd (kU m_right_values (kPair (kF (fun x => x.1.2) (kV (gS (gS (gS (gS gZ)))))) (kPair (kV (gS (gS gZ))) kU0))) (kU m_right_values (kPair (kF (fun x => x.2) (kV (gS (gS (gS (gS gZ)))))) (kPair (kV (gS (gS gZ))) kU0))))))))))) (iS (iS (iS (iS (iS (iZ ([], dRule, [], [], ()))))))) (fun _ => .bad)
noncomputable def l_right_rule_9 : ((List (List Nat)) × (List ((List Nat) × (List (List Nat)))) × (List ((List Nat) × (List (List Nat)))) × (List RRule) × RRule × (List Nat) × RRule × (List Nat) × (List Nat) × Unit) → Out ((List (List Nat)) × (List ((List Nat) × (List (List Nat)))) × (List ((List Nat) × (List (List Nat)))) × (List RRule) × RRule × (List Nat) × RRule × (List Nat) × (List Nat) × Unit) ((List (List Nat)) × (List ((List Nat) × (List (List Nat)))) × (List ((List Nat) × (List (List Nat)))) × (List RRule) × RRule × (List Nat) × RRule × (List Nat) × (List Nat) × Unit) Bool := (kSeq (kIf (kCmp mNin (kV (gS (gS (gS (gS (gS gZ)))))) (kV gZ)) (kRet (kC false)) kNx) kNx)
theorem n_right_rule : m_right_rule = kRun (S := (List (List Nat)) × (List ((List Nat) × (List (List Nat)))) × (List ((List Nat) × (List (List Nat)))) × (List RRule) × RRule × (List Nat) × RRule × (List Nat) × (List Nat) × Unit) (S' := Unit) (L := Unit) (kSeq (kIf (kOr (kCmp mGe (kF (fun x => (x.length : Int)) (kV (gS (gS (gS gZ))))) (kC (8 : Int))) (kOr (kF (fun x => !x) (kU m_is_name (kPair (kF (fun x => x.1.1.1.1.1.1.1.2) (kV (gS (gS (gS (gS gZ)))))) kU0))) (kCmp mIn (kF (fun x => x.1.1.1.1.1.1.1.2) (kV (gS (gS (gS (gS gZ)))))) (kLc (kV (gS (gS (gS gZ)))) (pS (pS (pS (pS (pS (pS pZ)))))) (kF (fun x => x.1.1.1.1.1.1.1.2) (kV (gS (gS (gS (gS (gS (gS gZ)))))))))))) (kRet (kC false)) kNx) (kSeq (kIf (kOr (kF (fun x => !x) (kChain mLe mLe (kC (1 : Int)) (kF (fun x => (x.length : Int)) (kF (fun x => x.1.1.1.1.1.1.2) (kV (gS (gS (gS (gS gZ))))))) (kC (3 : Int)))) (kF (fun x => !x) (kU m_right_moves (kPair (kF (fun x => x.1.1.1.1.1.1.2) (kV (gS (gS (gS (gS gZ)))))) (kPair (kV gZ) kU0))))) (kRet (kC false)) kNx) (kSeq (kIf (kOr (kF (fun x => !x) (kU m_right_moves (kPair (kF (fun x => x.1.1.1.1.1.2) (kV (gS (gS (gS (gS gZ)))))) (kPair (kV gZ) kU0)))) (kF (fun x => !x) (kU m_are_different (kPair (kLc (kF (fun x => x.1.1.1.1.1.2) (kV (gS (gS (gS (gS gZ)))))) (pP (pS (pS (pS (pS (pS (pS (pS pZ))))))) (pS (pS (pS (pS (pS (pS (pS (pS pZ))))))))) (kV (gS (gS (gS (gS (gS (gS (gS gZ))))))))) kU0)))) (kRet (kC false)) kNx) (kSeq (kIf (kCmp mGt (kF (fun x => (x.length : Int)) (kF (fun x => x.1.1.1.1.2) (kV (gS (gS (gS (gS gZ))))))) (kC (3 : Int))) (kRet (kC false)) kNx) (kSeq (kFor (kF (fun x => x.1.1.1.1.2) (kV (gS (gS (gS (gS gZ)))))) (pS (pS (pS (pS (pS pZ))))) l_right_rule_9) (kSeq (kIf (kOr (kF (fun x => !x) (kU m_right_values (kPair (kF (fun x => x.1.1.1.2) (kV (gS (gS (gS (gS gZ)))))) (kPair (kV (gS gZ)) kU0)))) (kF (fun x => !x) (kU m_right_values (kPair (kF (fun x => x.1.1.2) (kV (gS (gS (gS (gS gZ)))))) (kPair (kV (gS gZ)) kU0))))) (kRet (kC false)) kNx) (kRet (kAnd (kU m_right_values (kPair (kF (fun x => x.1.2) (kV (gS (gS (gS (gS gZ)))))) (kPair (kV (gS (gS gZ))) kU0))) (kU m_right_values (kPair (kF (fun x => x.2) (kV (gS (gS (gS (gS gZ)))))) (kPair (kV (gS (gS gZ))) kU0))))))))))) (iS (iS (iS (iS (iS (iZ ([], dRule, [], [], ()))))))) (fun _ => .bad) := rfl
abbrev s_right_rule : Stmt := (topS 18)
theorem sc_right_rule : FnScope ["states", "variables", "channels", "earlier", "rule", "state", "other", "first", "_"] ["states", "variables", "channels", "earlier", "rule"] (defScope s_right_rule) := ⟨rfl, rfl, rfl, by decide +kernel, rfl, by decide +kernel, by decide +kernel⟩
theorem ok_right_rule {f : Addr} {fd : FuncData} (D : DefAt K mg "right_rule" s_right_rule ["states", "variables", "channels", "earlier", "rule"] f fd) (U : Uses K mg) {CRule : Addr} {fi_Rule : Addr} {fdi_Rule : FuncData} (ORule : IniAtK K mg "Rule" "Rule.__init__" s_Rule ["self", "name", "actors", "everyone", "born", "conditions", "effects", "hears", "sends"] 2 ["everyone", "born", "conditions", "effects", "hears", "sends"] CRule fi_Rule fdi_Rule) (NRule : NARule K CRule) (I_Rule : FnOk P w K mg base (L2.CX P w) 2 fi_Rule fdi_Rule ["self", "name", "actors", "everyone", "born", "conditions", "effects", "hears", "sends"] (spI (XRm mg) CRule frRule (acons (fz tTxt) (acons (fz (tLst (tP2 tTxt tTxt))) (acons (fz (tLst (tP2 tTxt tTxt))) (acons (fz (tLst tTxt)) (acons (fz (tLst (tP2 tTxt tTxt))) (acons (fz (tLst (tP2 tTxt tTxt))) (acons (fz (tLst (tP2 tTxt tTxt))) (acons (fz (tLst (tP2 tTxt tTxt))) anil)))))))) m_Rule)) {f_are_different : Addr} {fd_are_different : FuncData} (D_are_different : DefAt K mg "are_different" s_are_different ["names"] f_are_different fd_are_different) (G_are_different : FnOk P w K mg base (L2.CX P w) 1 f_are_different fd_are_different ["names"] (spP (XRm mg) (acons (fz (tLst tTxt)) anil) (fz tBool) m_are_different)) {f_is_name : Addr} {fd_is_name : FuncData} (D_is_name : DefAt K mg "is_name" s_is_name ["word"] f_is_name fd_is_name) (G_is_name : FnOk P w K mg base (L2.CX P w) 1 f_is_name fd_is_name ["word"] (spP (XRm mg) (acons (fz tTxt) anil) (fz tBool) m_is_name)) {f_right_moves : Addr} {fd_right_moves : FuncData} (D_right_moves : DefAt K mg "right_moves" s_right_moves ["pairs", "states"] f_right_moves fd_right_moves) (G_right_moves : FnOk P w K mg base (L2.CX P w) 1 f_right_moves fd_right_moves ["pairs", "states"] (spP (XRm mg) (acons (fz (tTup (tP2 tTxt tTxt))) (acons (fz (tLst tTxt)) anil)) (fz tBool) m_right_moves)) {f_right_values : Addr} {fd_right_values : FuncData} (D_right_values : DefAt K mg "right_values" s_right_values ["pairs", "variables"] f_right_values fd_right_values) (G_right_values : FnOk P w K mg base (L2.CX P w) 2 f_right_values fd_right_values ["pairs", "variables"] (spP (XRm mg) (acons (fz (tTup (tP2 tTxt tTxt))) (acons (fz (tLst (tP2 tTxt (tLst tTxt)))) anil)) (fz tBool) m_right_values)) : FnOk P w K mg base (L2.CX P w) 3 f fd ["states", "variables", "channels", "earlier", "rule"] (spP (XRm mg) (acons (fz (tLst tTxt)) (acons (fz (tLst (tP2 tTxt (tLst tTxt)))) (acons (fz (tLst (tP2 tTxt (tLst tTxt)))) (acons (fz (tLst (tyRule CRule))) (acons (fz (tyRule CRule)) anil))))) (fz tBool) m_right_rule) :=
  fn_okK (G1 := fun _ => gnil) D.F sc_right_rule rfl rfl (fun _ => (st_cons (st_cons (st_cons (st_cons (st_cons (st_nil (any_cons (any_cons (any_cons (any_cons any_nil))))))))))) (fun _ => fall_bad) (fun _ cdv A outer s H E hr =>
    (ss_cons (sm_if (tm_b (bm_or (tm_c cm_ge (nomark _) (em_len (by rfl) U.len (em_var rfl (.inl rfl) (At.s (At.s (At.s At.z))))) em_int) (bm_or (tm_not (tm_val (em_call (takes_of rfl rfl rfl rfl) G_is_name (hr.mono (by decide)) (by rfl) D_is_name.g D_is_name.F.kp D_is_name.b (am_cons (em_fld (em_var rfl (.inl rfl) (At.s (At.s (At.s (At.s At.z))))) (has_s (by decide +kernel) (has_s (by decide +kernel) (has_s (by decide +kernel) (has_s (by decide +kernel) (has_s (by decide +kernel) (has_s (by decide +kernel) (has_s (by decide +kernel) has_z))))))) ORule.cl NRule.name) am_nil)))) (bm_or1 (tm_c (cm_inL scTxt) (by rfl) (em_fld (em_var rfl (.inl rfl) (At.s (At.s (At.s (At.s At.z))))) (has_s (by decide +kernel) (has_s (by decide +kernel) (has_s (by decide +kernel) (has_s (by decide +kernel) (has_s (by decide +kernel) (has_s (by decide +kernel) (has_s (by decide +kernel) has_z))))))) ORule.cl NRule.name) (em_freeze (em_lcK (own := [("other", 6)]) rfl sc_right_rule.nd (im_list (em_var rfl (.inl rfl) (At.s (At.s (At.s At.z))))) (blkOk_by (N := ["states", "variables", "channels", "earlier", "rule", "state", "other", "first", "_"]) (sc := (defScope s_right_rule)) (by decide +kernel)) (ko_keep (by decide) (ko_keep (by decide) (ko_keep (by decide) (ko_keep (by decide) (ko_keep (by decide) (ko_any (ko_any (ko_any (ko_any ko_nil))))))))) (fun _ _ _ _ _ => (tgt_name sc_right_rule.nd rfl (.inl (by rfl)) (At.s (At.s (At.s (At.s (At.s (At.s At.z)))))) (.inr (by rfl)))) (fun _ _ _ _ _ => (em_fld (em_var rfl (.inl (by rfl)) (At.s (At.s (At.s (At.s (At.s (At.s At.z))))))) (has_s (by decide +kernel) (has_s (by decide +kernel) (has_s (by decide +kernel) (has_s (by decide +kernel) (has_s (by decide +kernel) (has_s (by decide +kernel) (has_s (by decide +kernel) has_z))))))) ORule.cl NRule.name)) (bi_cons (bi_cons (bi_cons (bi_cons (bi_cons (bi_cons (bi_any bi_refl)))))))))))))) (ss_one (sm_retP em_bool)) (ss_nilI MvI.refl)) (ss_cons (sm_if (tm_b (bm_or (tm_not (tm_chainT cm_le cm_le em_int (em_lenT (by rfl) U.len (em_fld (em_var rfl (.inl rfl) (At.s (At.s (At.s (At.s At.z))))) (has_s (by decide +kernel) (has_s (by decide +kernel) (has_s (by decide +kernel) (has_s (by decide +kernel) (has_s (by decide +kernel) (has_s (by decide +kernel) has_z)))))) ORule.cl NRule.actors)) em_int)) (bm_or1 (tm_not (tm_val (em_call (takes_of rfl rfl rfl rfl) G_right_moves (hr.mono (by decide)) (by rfl) D_right_moves.g D_right_moves.F.kp D_right_moves.b (am_cons (em_fld (em_var rfl (.inl rfl) (At.s (At.s (At.s (At.s At.z))))) (has_s (by decide +kernel) (has_s (by decide +kernel) (has_s (by decide +kernel) (has_s (by decide +kernel) (has_s (by decide +kernel) (has_s (by decide +kernel) has_z)))))) ORule.cl NRule.actors) (am_cons (em_var rfl (.inl rfl) At.z) am_nil)))))))) (ss_one (sm_retP em_bool)) (ss_nilI MvI.refl)) (ss_cons (sm_if (tm_b (bm_or (tm_not (tm_val (em_call (takes_of rfl rfl rfl rfl) G_right_moves (hr.mono (by decide)) (by rfl) D_right_moves.g D_right_moves.F.kp D_right_moves.b (am_cons (em_fld (em_var rfl (.inl rfl) (At.s (At.s (At.s (At.s At.z))))) (has_s (by decide +kernel) (has_s (by decide +kernel) (has_s (by decide +kernel) (has_s (by decide +kernel) (has_s (by decide +kernel) has_z))))) ORule.cl NRule.everyone) (am_cons (em_var rfl (.inl rfl) At.z) am_nil))))) (bm_or1 (tm_not (tm_val (em_call (takes_of rfl rfl rfl rfl) G_are_different (hr.mono (by decide)) (by rfl) D_are_different.g D_are_different.F.kp D_are_different.b (am_cons (em_freeze (em_lcK (own := [("first", 7), ("_", 8)]) rfl sc_right_rule.nd (im_tup (em_fld (em_var rfl (.inl rfl) (At.s (At.s (At.s (At.s At.z))))) (has_s (by decide +kernel) (has_s (by decide +kernel) (has_s (by decide +kernel) (has_s (by decide +kernel) (has_s (by decide +kernel) has_z))))) ORule.cl NRule.everyone)) (blkOk_by (N := ["states", "variables", "channels", "earlier", "rule", "state", "other", "first", "_"]) (sc := (defScope s_right_rule)) (by decide +kernel)) (ko_keep (by decide) (ko_keep (by decide) (ko_keep (by decide) (ko_keep (by decide) (ko_keep (by decide) (ko_any (ko_any (ko_any (ko_any ko_nil))))))))) (fun _ _ _ _ _ => (tgt_pair rfl sc_right_rule.nd rfl (.inl (by rfl)) rfl (.inl (by rfl)) (At.s (At.s (At.s (At.s (At.s (At.s (At.s At.z))))))) (At.s (At.s (At.s (At.s (At.s (At.s (At.s (At.s At.z)))))))) (fun h h2 => pg_tup rfl (pgs_cons h (pgs_cons h2 pgs_nil))) (.inr (by rfl)) (.inr (by rfl)))) (fun _ _ _ _ _ => (em_var rfl (.inl (by rfl)) (At.s (At.s (At.s (At.s (At.s (At.s (At.s At.z))))))))) (bi_cons (bi_cons (bi_cons (bi_cons (bi_cons (bi_cons (bi_cons (bi_any (bi_any bi_refl))))))))))) am_nil))))))) (ss_one (sm_retP em_bool)) (ss_nilI MvI.refl)) (ss_cons (sm_if (tm_c cm_gt (nomark _) (em_lenT (by rfl) U.len (em_fld (em_var rfl (.inl rfl) (At.s (At.s (At.s (At.s At.z))))) (has_s (by decide +kernel) (has_s (by decide +kernel) (has_s (by decide +kernel) (has_s (by decide +kernel) has_z)))) ORule.cl NRule.born)) em_int) (ss_one (sm_retP em_bool)) (ss_nilI MvI.refl)) (ss_cons (sm_forI (passes_of rfl) rfl (im_tup (em_fld (em_var rfl (.inl rfl) (At.s (At.s (At.s (At.s At.z))))) (has_s (by decide +kernel) (has_s (by decide +kernel) (has_s (by decide +kernel) (has_s (by decide +kernel) has_z)))) ORule.cl NRule.born)) MvI.refl (tgt_name sc_right_rule.nd rfl (.inl rfl) (At.s (At.s (At.s (At.s (At.s At.z))))) (.inl rfl)) (ss_cons (sm_if (tm_c (cm_ninL scTxt) (by rfl) (em_var rfl (.inl rfl) (At.s (At.s (At.s (At.s (At.s At.z)))))) (em_var rfl (.inl rfl) At.z)) (ss_one (sm_retP em_bool)) (ss_nilI MvI.refl)) (ss_nilI (MvI.cons SMvI.refl (MvI.cons SMvI.refl (MvI.cons SMvI.refl (MvI.cons SMvI.refl (MvI.cons SMvI.refl (MvI.cons SMvI.hide MvI.refl))))))))) (ss_cons (sm_if (tm_b (bm_or (tm_not (tm_val (em_call (takes_of rfl rfl rfl rfl) G_right_values (hr.mono (by decide)) (by rfl) D_right_values.g D_right_values.F.kp D_right_values.b (am_cons (em_fld (em_var rfl (.inl rfl) (At.s (At.s (At.s (At.s At.z))))) (has_s (by decide +kernel) (has_s (by decide +kernel) (has_s (by decide +kernel) has_z))) ORule.cl NRule.conditions) (am_cons (em_var rfl (.inl rfl) (At.s At.z)) am_nil))))) (bm_or1 (tm_not (tm_val (em_call (takes_of rfl rfl rfl rfl) G_right_values (hr.mono (by decide)) (by rfl) D_right_values.g D_right_values.F.kp D_right_values.b (am_cons (em_fld (em_var rfl (.inl rfl) (At.s (At.s (At.s (At.s At.z))))) (has_s (by decide +kernel) (has_s (by decide +kernel) has_z)) ORule.cl NRule.effects) (am_cons (em_var rfl (.inl rfl) (At.s At.z)) am_nil)))))))) (ss_one (sm_retP em_bool)) (ss_nilI MvI.refl)) (ss_one (sm_retP (em_and (em_call (takes_of rfl rfl rfl rfl) G_right_values (hr.mono (by decide)) (by rfl) D_right_values.g D_right_values.F.kp D_right_values.b (am_cons (em_fld (em_var rfl (.inl rfl) (At.s (At.s (At.s (At.s At.z))))) (has_s (by decide +kernel) has_z) ORule.cl NRule.hears) (am_cons (em_var rfl (.inl rfl) (At.s (At.s At.z))) am_nil))) (em_one (em_call (takes_of rfl rfl rfl rfl) G_right_values (hr.mono (by decide)) (by rfl) D_right_values.g D_right_values.F.kp D_right_values.b (am_cons (em_fld (em_var rfl (.inl rfl) (At.s (At.s (At.s (At.s At.z))))) has_z ORule.cl NRule.sends) (am_cons (em_var rfl (.inl rfl) (At.s (At.s At.z))) am_nil))))))))))))))
/-! ### right_pattern -/
noncomputable def m_right_pattern : (List (List Nat)) × (List ((List Nat) × (List (List Nat)))) × (List ((List ((List Nat) × Int)) × (List ((List Nat) × (List Nat))))) × ((List ((List Nat) × Int)) × (List ((List Nat) × (List Nat)))) × Unit → Res Bool := kRun (S := (List (List Nat)) × (List ((List Nat) × (List (List Nat)))) × (List ((List ((List Nat) × Int)) × (List ((List Nat) × (List Nat))))) × ((List ((List Nat) × Int)) × (List ((List Nat) × (List Nat)))) × (List ((List Nat) × Int)) × (List ((List Nat) × (List Nat))) × (List Nat) × Int × Int × Unit) (S' := Unit) (L := Unit) (kSeq (kSet (kV (gS (gS (gS gZ)))) (pP (pS (pS (pS (pS pZ)))) (pS (pS (pS (pS (pS pZ))))))) (kSeq (kIf (kOr (kCmp mGe (kF (fun x => (x.length : Int)) (kV (gS (gS gZ)))) (kC (4 : Int))) (kCmp mEq (kB mAdd (kF (fun x => (x.length : Int)) (kV (gS (gS (gS (gS gZ)))))) (kF (fun x => (x.length : Int)) (kV (gS (gS (gS (gS (gS gZ)))))))) (kC (0 : Int)))) (kRet (kC false)) kNx) (kSeq (kFor (kV (gS (gS (gS (gS gZ))))) (pP (pS (pS (pS (pS (pS (pS pZ)))))) (pS (pS (pS (pS (pS (pS (pS pZ)))))))) (kSeq (kIf (kOr (kCmp mNin (kV (gS (gS (gS (gS (gS (gS gZ))))))) (kV gZ)) (kF (fun x => !x) (kChain mLe mLe (kC (1 : Int)) (kV (gS (gS (gS (gS (gS (gS (gS gZ)))))))) (kC (9 : Int))))) (kRet (kC false)) kNx) kNx)) (kRet (kAnd (kU m_are_different (kPair (kLc (kV (gS (gS (gS (gS gZ))))) (pP (pS (pS (pS (pS (pS (pS pZ)))))) (pS (pS (pS (pS (pS (pS (pS (pS pZ))))))))) (kV (gS (gS (gS (gS (gS (gS gZ)))))))) kU0)) (kU m_right_values_l (kPair (kV (gS (gS (gS (gS (gS gZ)))))) (kPair (kV (gS gZ)) kU0)))))))) (iS (iS (iS (iS (iZ ([], [], [], 0, 0, ())))))) (fun _ => .bad)
noncomputable def l_right_pattern_4 : ((List (List Nat)) × (List ((List Nat) × (List (List Nat)))) × (List ((List ((List Nat) × Int)) × (List ((List Nat) × (List Nat))))) × ((List ((List Nat) × Int)) × (List ((List Nat) × (List Nat)))) × (List ((List Nat) × Int)) × (List ((List Nat) × (List Nat))) × (List Nat) × Int × Int × Unit) → Out ((List (List Nat)) × (List ((List Nat) × (List (List Nat)))) × (List ((List ((List Nat) × Int)) × (List ((List Nat) × (List Nat))))) × ((List ((List Nat) × Int)) × (List ((List Nat) × (List Nat)))) × (List ((List Nat) × Int)) × (List ((List Nat) × (List Nat))) × (List Nat) × Int × Int × Unit) ((List (List Nat)) × (List ((List Nat) × (List (List Nat)))) × (List ((List ((List Nat) × Int)) × (List ((List Nat) × (List Nat))))) × ((List ((List Nat) × Int)) × (List ((List Nat) × (List Nat)))) × (List ((List Nat) × Int)) × (List ((List Nat) × (List Nat))) × (List Nat) × Int × Int × Unit) Bool := (kSeq (kIf (kOr (kCmp mNin (kV (gS (gS (gS (gS (gS (gS gZ))))))) (kV gZ)) (kF (fun x => !x) (kChain mLe mLe (kC (1 : Int)) (kV (gS (gS (gS (gS (gS (gS (gS gZ)))))))) (kC (9 : Int))))) (kRet (kC false)) kNx) kNx)
theorem n_right_pattern : m_right_pattern = kRun (S := (List (List Nat)) × (List ((List Nat) × (List (List Nat)))) × (List ((List ((List Nat) × Int)) × (List ((List Nat) × (List Nat))))) × ((List ((List Nat) × Int)) × (List ((List Nat) × (List Nat)))) × (List ((List Nat) × Int)) × (List ((List Nat) × (List Nat))) × (List Nat) × Int × Int × Unit) (S' := Unit) (L := Unit) (kSeq (kSet (kV (gS (gS (gS gZ)))) (pP (pS (pS (pS (pS pZ)))) (pS (pS (pS (pS (pS pZ))))))) (kSeq (kIf (kOr (kCmp mGe (kF (fun x => (x.length : Int)) (kV (gS (gS gZ)))) (kC (4 : Int))) (kCmp mEq (kB mAdd (kF (fun x => (x.length : Int)) (kV (gS (gS (gS (gS gZ)))))) (kF (fun x => (x.length : Int)) (kV (gS (gS (gS (gS (gS gZ)))))))) (kC (0 : Int)))) (kRet (kC false)) kNx) (kSeq (kFor (kV (gS (gS (gS (gS gZ))))) (pP (pS (pS (pS (pS (pS (pS pZ)))))) (pS (pS (pS (pS (pS (pS (pS pZ)))))))) l_right_pattern_4) (kRet (kAnd (kU m_are_different (kPair (kLc (kV (gS (gS (gS (gS gZ))))) (pP (pS (pS (pS (pS (pS (pS pZ)))))) (pS (pS (pS (pS (pS (pS (pS (pS pZ))))))))) (kV (gS (gS (gS (gS (gS (gS gZ)))))))) kU0)) (kU m_right_values_l (kPair (kV (gS (gS (gS (gS (gS gZ)))))) (kPair (kV (gS gZ)) kU0)))))))) (iS (iS (iS (iS (iZ ([], [], [], 0, 0, ())))))) (fun _ => .bad) := rfl
abbrev s_right_pattern : Stmt := (topS 19)
theorem sc_right_pattern : FnScope ["states", "variables", "earlier", "pattern", "counts", "values", "state", "number", "_"] ["states", "variables", "earlier", "pattern"] (defScope s_right_pattern) := ⟨rfl, rfl, rfl, by decide +kernel, rfl, by decide +kernel, by decide +kernel⟩
theorem ok_right_pattern {f : Addr} {fd : FuncData} (D : DefAt K mg "right_pattern" s_right_pattern ["states", "variables", "earlier", "pattern"] f fd) (U : Uses K mg) {f_are_different : Addr} {fd_are_different : FuncData} (D_are_different : DefAt K mg "are_different" s_are_different ["names"] f_are_different fd_are_different) (G_are_different : FnOk P w K mg base (L2.CX P w) 1 f_are_different fd_are_different ["names"] (spP (XRm mg) (acons (fz (tLst tTxt)) anil) (fz tBool) m_are_different)) {f_right_values : Addr} {fd_right_values : FuncData} (D_right_values : DefAt K mg "right_values" s_right_values ["pairs", "variables"] f_right_values fd_right_values) (G_right_values_l : FnOk P w K mg base (L2.CX P w) 2 f_right_values fd_right_values ["pairs", "variables"] (spP (XRm mg) (acons (fz (tLst (tP2 tTxt tTxt))) (acons (fz (tLst (tP2 tTxt (tLst tTxt)))) anil)) (fz tBool) m_right_values_l)) : FnOk P w K mg base (L2.CX P w) 3 f fd ["states", "variables", "earlier", "pattern"] (spP (XRm mg) (acons (fz (tLst tTxt)) (acons (fz (tLst (tP2 tTxt (tLst tTxt)))) (acons (fz (tLst (tP2 (tLst (tP2 tTxt tInt)) (tLst (tP2 tTxt tTxt))))) (acons (fz (tP2 (tLst (tP2 tTxt tInt)) (tLst (tP2 tTxt tTxt)))) anil)))) (fz tBool) m_right_pattern) :=
  fn_okK (G1 := fun _ => gnil) D.F sc_right_pattern rfl rfl (fun _ => (st_cons (st_cons (st_cons (st_cons (st_nil (any_cons (any_cons (any_cons (any_cons (any_cons any_nil))))))))))) (fun _ => fall_bad) (fun _ cdv A outer s H E hr =>
    (ss_cons (sm_unpack (R := fz (tP2 (tLst (tP2 tTxt tInt)) (tLst (tP2 tTxt tTxt)))) (tgt_pair rfl sc_right_pattern.nd rfl (.inl rfl) rfl (.inl rfl) (At.s (At.s (At.s (At.s At.z)))) (At.s (At.s (At.s (At.s (At.s At.z))))) (fun h h2 => pg_tup rfl (pgs_cons h (pgs_cons h2 pgs_nil))) (.inl rfl) (.inl rfl)) (em_var rfl (.inl rfl) (At.s (At.s (At.s At.z)))) (fun _ _ h h2 => ps_asg h h2)) (ss_cons (sm_if (tm_b (bm_or (tm_c cm_ge (nomark _) (em_len (by rfl) U.len (em_var rfl (.inl rfl) (At.s (At.s At.z)))) em_int) (bm_or1 (tm_c (cm_eqS scInt) (nomark _) (em_add (em_len (by rfl) U.len (em_var rfl (.inl rfl) (At.s (At.s (At.s (At.s At.z)))))) (em_len (by rfl) U.len (em_var rfl (.inl rfl) (At.s (At.s (At.s (At.s (At.s At.z)))))))) em_int)))) (ss_one (sm_retP em_bool)) (ss_nilI MvI.refl)) (ss_cons (sm_forI (passes_of rfl) rfl (im_list (em_var rfl (.inl rfl) (At.s (At.s (At.s (At.s At.z)))))) MvI.refl (tgt_pair rfl sc_right_pattern.nd rfl (.inl rfl) rfl (.inl rfl) (At.s (At.s (At.s (At.s (At.s (At.s At.z)))))) (At.s (At.s (At.s (At.s (At.s (At.s (At.s At.z))))))) (fun h h2 => pg_tup rfl (pgs_cons h (pgs_cons h2 pgs_nil))) (.inl rfl) (.inl rfl)) (ss_cons (sm_if (tm_b (bm_or (tm_c (cm_ninL scTxt) (by rfl) (em_var rfl (.inl rfl) (At.s (At.s (At.s (At.s (At.s (At.s At.z))))))) (em_var rfl (.inl rfl) At.z)) (bm_or1 (tm_not (tm_chainT cm_le cm_le em_int (em_var rfl (.inl rfl) (At.s (At.s (At.s (At.s (At.s (At.s (At.s At.z)))))))) em_int))))) (ss_one (sm_retP em_bool)) (ss_nilI MvI.refl)) (ss_nilI (MvI.cons SMvI.refl (MvI.cons SMvI.refl (MvI.cons SMvI.refl (MvI.cons SMvI.refl (MvI.cons SMvI.refl (MvI.cons SMvI.refl (MvI.cons SMvI.hide (MvI.cons SMvI.hide MvI.refl))))))))))) (ss_one (sm_retP (em_and (em_call (takes_of rfl rfl rfl rfl) G_are_different (hr.mono (by decide)) (by rfl) D_are_different.g D_are_different.F.kp D_are_different.b (am_cons (em_freeze (em_lcK (own := [("state", 6), ("_", 8)]) rfl sc_right_pattern.nd (im_list (em_var rfl (.inl rfl) (At.s (At.s (At.s (At.s At.z)))))) (blkOk_by (N := ["states", "variables", "earlier", "pattern", "counts", "values", "state", "number", "_"]) (sc := (defScope s_right_pattern)) (by decide +kernel)) (ko_keep (by decide) (ko_keep (by decide) (ko_keep (by decide) (ko_keep (by decide) (ko_keep (by decide) (ko_keep (by decide) (ko_any (ko_any (ko_any ko_nil))))))))) (fun _ _ _ _ _ => (tgt_pair rfl sc_right_pattern.nd rfl (.inl (by rfl)) rfl (.inl (by rfl)) (At.s (At.s (At.s (At.s (At.s (At.s At.z)))))) (At.s (At.s (At.s (At.s (At.s (At.s (At.s (At.s At.z)))))))) (fun h h2 => pg_tup rfl (pgs_cons h (pgs_cons h2 pgs_nil))) (.inr (by rfl)) (.inr (by rfl)))) (fun _ _ _ _ _ => (em_var rfl (.inl (by rfl)) (At.s (At.s (At.s (At.s (At.s (At.s At.z)))))))) (bi_cons (bi_cons (bi_cons (bi_cons (bi_cons (bi_cons (bi_any (bi_cons (bi_any bi_refl))))))))))) am_nil)) (em_one (em_call (takes_of rfl rfl rfl rfl) G_right_values_l (hr.mono (by decide)) (by rfl) D_right_values.g D_right_values.F.kp D_right_values.b (am_cons (em_var rfl (.inl rfl) (At.s (At.s (At.s (At.s (At.s At.z)))))) (am_cons (em_var rfl (.inl rfl) (At.s At.z)) am_nil)))))))))))
/-! ### System.__init__ -/
noncomputable def m_System : Unit × (List (List Nat)) × (List Nat) × (List ((List Nat) × (List (List Nat)))) × (List RRule) × (List ((List ((List Nat) × Int)) × (List ((List Nat) × (List Nat))))) × (List ((List Nat) × (List (List Nat)))) × Unit → Res RSystem := kRun (S := Unit × (List (List Nat)) × (List Nat) × (List ((List Nat) × (List (List Nat)))) × (List RRule) × (List ((List ((List Nat) × Int)) × (List ((List Nat) × (List Nat))))) × (List ((List Nat) × (List (List Nat)))) × Bool × Int × (List Nat) × (List (List Nat)) × (List ((List Nat) × (List Nat))) × (List ((List Nat) × Int)) × Unit) (S' := RSystem × (List (List Nat)) × (List Nat) × (List ((List Nat) × (List (List Nat)))) × (List RRule) × (List ((List ((List Nat) × Int)) × (List ((List Nat) × (List Nat))))) × (List ((List Nat) × (List (List Nat)))) × Bool × Int × (List Nat) × (List (List Nat)) × (List ((List Nat) × (List Nat))) × (List ((List Nat) × Int)) × Unit) (L := Unit) (kSeq (kSet (kU m_right_states (kPair (kV (gS gZ)) (kPair (kV (gS (gS gZ))) kU0))) (pS (pS (pS (pS (pS (pS (pS pZ)))))))) (kSeq (kFor (kRange1 (kF (fun x => (x.length : Int)) (kV (gS (gS (gS gZ)))))) (pS (pS (pS (pS (pS (pS (pS (pS pZ)))))))) (kSeq (kSet (kAnd (kV (gS (gS (gS (gS (gS (gS (gS gZ)))))))) (kU m_right_variable (kPair (kV (gS gZ)) (kPair (kCut (kV (gS (gS (gS gZ)))) (kC none) (kF some (kV (gS (gS (gS (gS (gS (gS (gS (gS gZ))))))))))) (kPair (kF (fun x => x.1) (kB mIx (kV (gS (gS (gS gZ)))) (kV (gS (gS (gS (gS (gS (gS (gS (gS gZ))))))))))) (kPair (kF (fun x => x.2) (kB mIx (kV (gS (gS (gS gZ)))) (kV (gS (gS (gS (gS (gS (gS (gS (gS gZ))))))))))) kU0)))))) (pS (pS (pS (pS (pS (pS (pS pZ)))))))) kNx)) (kSeq (kFor (kRange1 (kF (fun x => (x.length : Int)) (kV (gS (gS (gS (gS (gS (gS gZ))))))))) (pS (pS (pS (pS (pS (pS (pS (pS pZ)))))))) (kSeq (kSet (kB mIx (kV (gS (gS (gS (gS (gS (gS gZ))))))) (kV (gS (gS (gS (gS (gS (gS (gS (gS gZ)))))))))) (pP (pS (pS (pS (pS (pS (pS (pS (pS (pS pZ))))))))) (pS (pS (pS (pS (pS (pS (pS (pS (pS (pS pZ)))))))))))) (kSeq (kSet (kAnd (kV (gS (gS (gS (gS (gS (gS (gS gZ)))))))) (kU m_right_channel (kPair (kV (gS gZ)) (kPair (kV (gS (gS (gS gZ)))) (kPair (kCut (kV (gS (gS (gS (gS (gS (gS gZ))))))) (kC none) (kF some (kV (gS (gS (gS (gS (gS (gS (gS (gS gZ))))))))))) (kPair (kV (gS (gS (gS (gS (gS (gS (gS (gS (gS gZ)))))))))) (kPair (kV (gS (gS (gS (gS (gS (gS (gS (gS (gS (gS gZ))))))))))) kU0))))))) (pS (pS (pS (pS (pS (pS (pS pZ)))))))) kNx))) (kSeq (kFor (kRange1 (kF (fun x => (x.length : Int)) (kV (gS (gS (gS (gS gZ))))))) (pS (pS (pS (pS (pS (pS (pS (pS pZ)))))))) (kSeq (kSet (kAnd (kV (gS (gS (gS (gS (gS (gS (gS gZ)))))))) (kU m_right_rule (kPair (kV (gS gZ)) (kPair (kV (gS (gS (gS gZ)))) (kPair (kV (gS (gS (gS (gS (gS (gS gZ))))))) (kPair (kCut (kV (gS (gS (gS (gS gZ))))) (kC none) (kF some (kV (gS (gS (gS (gS (gS (gS (gS (gS gZ))))))))))) (kPair (kB mIx (kV (gS (gS (gS (gS gZ))))) (kV (gS (gS (gS (gS (gS (gS (gS (gS gZ)))))))))) kU0))))))) (pS (pS (pS (pS (pS (pS (pS pZ)))))))) kNx)) (kSeq (kFor (kRange1 (kF (fun x => (x.length : Int)) (kV (gS (gS (gS (gS (gS gZ)))))))) (pS (pS (pS (pS (pS (pS (pS (pS pZ)))))))) (kSeq (kSet (kAnd (kV (gS (gS (gS (gS (gS (gS (gS gZ)))))))) (kU m_right_pattern (kPair (kV (gS gZ)) (kPair (kV (gS (gS (gS gZ)))) (kPair (kCut (kV (gS (gS (gS (gS (gS gZ)))))) (kC none) (kF some (kV (gS (gS (gS (gS (gS (gS (gS (gS gZ))))))))))) (kPair (kB mIx (kV (gS (gS (gS (gS (gS gZ)))))) (kV (gS (gS (gS (gS (gS (gS (gS (gS gZ)))))))))) kU0)))))) (pS (pS (pS (pS (pS (pS (pS pZ)))))))) kNx)) (kSeq (kIf (kF (fun x => !x) (kV (gS (gS (gS (gS (gS (gS (gS gZ))))))))) (kEr "InvalidProtocol") kNx) (kSeq (kFldNew gZ pZ (kU (fun x => .ok x) (kV (gS gZ)))) (kSeq (kFldNew gZ pZ (kV (gS (gS gZ)))) (kMv (fun s => (s.1, (s.2.1, (s.2.2.1, (s.2.2.2.1, (s.2.2.2.2.1, (s.2.2.2.2.2.1, (s.2.2.2.2.2.2.1, (s.2.2.2.2.2.2.2.1, (s.2.2.2.2.2.2.2.2.1, (s.2.2.2.2.2.2.2.2.2.1, (s.2.2.2.2.2.2.2.2.2.2.1, ([], s.2.2.2.2.2.2.2.2.2.2.2.2))))))))))))) (kSeq (kFldNew gZ pZ (kU (fun x => .ok x) (kLc (kV (gS (gS (gS gZ)))) (pP (pS (pS (pS (pS (pS (pS (pS (pS (pS pZ))))))))) (pS (pS (pS (pS (pS (pS (pS (pS (pS (pS (pS pZ)))))))))))) (kF (fun x => (x.1, x.2.1)) (kPair (kV (gS (gS (gS (gS (gS (gS (gS (gS (gS gZ)))))))))) (kPair (kU (fun x => .ok x) (kV (gS (gS (gS (gS (gS (gS (gS (gS (gS (gS (gS gZ))))))))))))) kU0)))))) (kSeq (kFldNew gZ pZ (kU (fun x => .ok x) (kLc (kV (gS (gS (gS (gS (gS (gS gZ))))))) (pP (pS (pS (pS (pS (pS (pS (pS (pS (pS pZ))))))))) (pS (pS (pS (pS (pS (pS (pS (pS (pS (pS pZ))))))))))) (kF (fun x => (x.1, x.2.1)) (kPair (kV (gS (gS (gS (gS (gS (gS (gS (gS (gS gZ)))))))))) (kPair (kU (fun x => .ok x) (kV (gS (gS (gS (gS (gS (gS (gS (gS (gS (gS gZ)))))))))))) kU0)))))) (kSeq (kFldNew gZ pZ (kU (fun x => .ok x) (kV (gS (gS (gS (gS gZ))))))) (kMv (fun s => (s.1, (s.2.1, (s.2.2.1, (s.2.2.2.1, (s.2.2.2.2.1, (s.2.2.2.2.2.1, (s.2.2.2.2.2.2.1, (s.2.2.2.2.2.2.2.1, (s.2.2.2.2.2.2.2.2.1, (s.2.2.2.2.2.2.2.2.2.1, (s.2.2.2.2.2.2.2.2.2.2.1, ([], s.2.2.2.2.2.2.2.2.2.2.2.2))))))))))))) (kFldNew gZ pZ (kU (fun x => .ok x) (kLc (kV (gS (gS (gS (gS (gS gZ)))))) (pP (pS (pS (pS (pS (pS (pS (pS (pS (pS (pS (pS (pS pZ)))))))))))) (pS (pS (pS (pS (pS (pS (pS (pS (pS (pS (pS pZ)))))))))))) (kF (fun x => (x.1, x.2.1)) (kPair (kU m_pairs_of_n (kPair (kV (gS (gS (gS (gS (gS (gS (gS (gS (gS (gS (gS (gS gZ))))))))))))) kU0)) (kPair (kU m_pairs_of (kPair (kV (gS (gS (gS (gS (gS (gS (gS (gS (gS (gS (gS gZ)))))))))))) kU0)) kU0))))))))))))))))))) (iS (iS (iS (iS (iS (iS (iS (iZ (false, 0, [], [], [], [], ()))))))))) (fun s => .ok (gZ s))
noncomputable def l_System_2 : (Unit × (List (List Nat)) × (List Nat) × (List ((List Nat) × (List (List Nat)))) × (List RRule) × (List ((List ((List Nat) × Int)) × (List ((List Nat) × (List Nat))))) × (List ((List Nat) × (List (List Nat)))) × Bool × Int × (List Nat) × (List (List Nat)) × (List ((List Nat) × (List Nat))) × (List ((List Nat) × Int)) × Unit) → Out (Unit × (List (List Nat)) × (List Nat) × (List ((List Nat) × (List (List Nat)))) × (List RRule) × (List ((List ((List Nat) × Int)) × (List ((List Nat) × (List Nat))))) × (List ((List Nat) × (List (List Nat)))) × Bool × Int × (List Nat) × (List (List Nat)) × (List ((List Nat) × (List Nat))) × (List ((List Nat) × Int)) × Unit) (Unit × (List (List Nat)) × (List Nat) × (List ((List Nat) × (List (List Nat)))) × (List RRule) × (List ((List ((List Nat) × Int)) × (List ((List Nat) × (List Nat))))) × (List ((List Nat) × (List (List Nat)))) × Bool × Int × (List Nat) × (List (List Nat)) × (List ((List Nat) × (List Nat))) × (List ((List Nat) × Int)) × Unit) RSystem := (kSeq (kSet (kAnd (kV (gS (gS (gS (gS (gS (gS (gS gZ)))))))) (kU m_right_variable (kPair (kV (gS gZ)) (kPair (kCut (kV (gS (gS (gS gZ)))) (kC none) (kF some (kV (gS (gS (gS (gS (gS (gS (gS (gS gZ))))))))))) (kPair (kF (fun x => x.1) (kB mIx (kV (gS (gS (gS gZ)))) (kV (gS (gS (gS (gS (gS (gS (gS (gS gZ))))))))))) (kPair (kF (fun x => x.2) (kB mIx (kV (gS (gS (gS gZ)))) (kV (gS (gS (gS (gS (gS (gS (gS (gS gZ))))))))))) kU0)))))) (pS (pS (pS (pS (pS (pS (pS pZ)))))))) kNx)
noncomputable def l_System_4 : (Unit × (List (List Nat)) × (List Nat) × (List ((List Nat) × (List (List Nat)))) × (List RRule) × (List ((List ((List Nat) × Int)) × (List ((List Nat) × (List Nat))))) × (List ((List Nat) × (List (List Nat)))) × Bool × Int × (List Nat) × (List (List Nat)) × (List ((List Nat) × (List Nat))) × (List ((List Nat) × Int)) × Unit) → Out (Unit × (List (List Nat)) × (List Nat) × (List ((List Nat) × (List (List Nat)))) × (List RRule) × (List ((List ((List Nat) × Int)) × (List ((List Nat) × (List Nat))))) × (List ((List Nat) × (List (List Nat)))) × Bool × Int × (List Nat) × (List (List Nat)) × (List ((List Nat) × (List Nat))) × (List ((List Nat) × Int)) × Unit) (Unit × (List (List Nat)) × (List Nat) × (List ((List Nat) × (List (List Nat)))) × (List RRule) × (List ((List ((List Nat) × Int)) × (List ((List Nat) × (List Nat))))) × (List ((List Nat) × (List (List Nat)))) × Bool × Int × (List Nat) × (List (List Nat)) × (List ((List Nat) × (List Nat))) × (List ((List Nat) × Int)) × Unit) RSystem := (kSeq (kSet (kB mIx (kV (gS (gS (gS (gS (gS (gS gZ))))))) (kV (gS (gS (gS (gS (gS (gS (gS (gS gZ)))))))))) (pP (pS (pS (pS (pS (pS (pS (pS (pS (pS pZ))))))))) (pS (pS (pS (pS (pS (pS (pS (pS (pS (pS pZ)))))))))))) (kSeq (kSet (kAnd (kV (gS (gS (gS (gS (gS (gS (gS gZ)))))))) (kU m_right_channel (kPair (kV (gS gZ)) (kPair (kV (gS (gS (gS gZ)))) (kPair (kCut (kV (gS (gS (gS (gS (gS (gS gZ))))))) (kC none) (kF some (kV (gS (gS (gS (gS (gS (gS (gS (gS gZ))))))))))) (kPair (kV (gS (gS (gS (gS (gS (gS (gS (gS (gS gZ)))))))))) (kPair (kV (gS (gS (gS (gS (gS (gS (gS (gS (gS (gS gZ))))))))))) kU0))))))) (pS (pS (pS (pS (pS (pS (pS pZ)))))))) kNx))
noncomputable def l_System_7 : (Unit × (List (List Nat)) × (List Nat) × (List ((List Nat) × (List (List Nat)))) × (List RRule) × (List ((List ((List Nat) × Int)) × (List ((List Nat) × (List Nat))))) × (List ((List Nat) × (List (List Nat)))) × Bool × Int × (List Nat) × (List (List Nat)) × (List ((List Nat) × (List Nat))) × (List ((List Nat) × Int)) × Unit) → Out (Unit × (List (List Nat)) × (List Nat) × (List ((List Nat) × (List (List Nat)))) × (List RRule) × (List ((List ((List Nat) × Int)) × (List ((List Nat) × (List Nat))))) × (List ((List Nat) × (List (List Nat)))) × Bool × Int × (List Nat) × (List (List Nat)) × (List ((List Nat) × (List Nat))) × (List ((List Nat) × Int)) × Unit) (Unit × (List (List Nat)) × (List Nat) × (List ((List Nat) × (List (List Nat)))) × (List RRule) × (List ((List ((List Nat) × Int)) × (List ((List Nat) × (List Nat))))) × (List ((List Nat) × (List (List Nat)))) × Bool × Int × (List Nat) × (List (List Nat)) × (List ((List Nat) × (List Nat))) × (List ((List Nat) × Int)) × Unit) RSystem := (kSeq (kSet (kAnd (kV (gS (gS (gS (gS (gS (gS (gS gZ)))))))) (kU m_right_rule (kPair (kV (gS gZ)) (kPair (kV (gS (gS (gS gZ)))) (kPair (kV (gS (gS (gS (gS (gS (gS gZ))))))) (kPair (kCut (kV (gS (gS (gS (gS gZ))))) (kC none) (kF some (kV (gS (gS (gS (gS (gS (gS (gS (gS gZ))))))))))) (kPair (kB mIx (kV (gS (gS (gS (gS gZ))))) (kV (gS (gS (gS (gS (gS (gS (gS (gS gZ)))))))))) kU0))))))) (pS (pS (pS (pS (pS (pS (pS pZ)))))))) kNx)
noncomputable def l_System_9 : (Unit × (List (List Nat)) × (List Nat) × (List ((List Nat) × (List (List Nat)))) × (List RRule) × (List ((List ((List Nat) × Int)) × (List ((List Nat) × (List Nat))))) × (List ((List Nat) × (List (List Nat)))) × Bool × Int × (List Nat) × (List (List Nat)) × (List ((List Nat) × (List Nat))) × (List ((List Nat) × Int)) × Unit) → Out (Unit × (List (List Nat)) × (List Nat) × (List ((List Nat) × (List (List Nat)))) × (List RRule) × (List ((List ((List Nat) × Int)) × (List ((List Nat) × (List Nat))))) × (List ((List Nat) × (List (List Nat)))) × Bool × Int × (List Nat) × (List (List Nat)) × (List ((List Nat) × (List Nat))) × (List ((List Nat) × Int)) × Unit) (Unit × (List (List Nat)) × (List Nat) × (List ((List Nat) × (List (List Nat)))) × (List RRule) × (List ((List ((List Nat) × Int)) × (List ((List Nat) × (List Nat))))) × (List ((List Nat) × (List (List Nat)))) × Bool × Int × (List Nat) × (List (List Nat)) × (List ((List Nat) × (List Nat))) × (List ((List Nat) × Int)) × Unit) RSystem := (kSeq (kSet (kAnd (kV (gS (gS (gS (gS (gS (gS (gS gZ)))))))) (kU m_right_pattern (kPair (kV (gS gZ)) (kPair (kV (gS (gS (gS gZ)))) (kPair (kCut (kV (gS (gS (gS (gS (gS gZ)))))) (kC none) (kF some (kV (gS (gS (gS (gS (gS (gS (gS (gS gZ))))))))))) (kPair (kB mIx (kV (gS (gS (gS (gS (gS gZ)))))) (kV (gS (gS (gS (gS (gS (gS (gS (gS gZ)))))))))) kU0)))))) (pS (pS (pS (pS (pS (pS (pS pZ)))))))) kNx)
theorem n_System : m_System = kRun (S := Unit × (List (List Nat)) × (List Nat) × (List ((List Nat) × (List (List Nat)))) × (List RRule) × (List ((List ((List Nat) × Int)) × (List ((List Nat) × (List Nat))))) × (List ((List Nat) × (List (List Nat)))) × Bool × Int × (List Nat) × (List (List Nat)) × (List ((List Nat) × (List Nat))) × (List ((List Nat) × Int)) × Unit) (S' := RSystem × (List (List Nat)) × (List Nat) × (List ((List Nat) × (List (List Nat)))) × (List RRule) × (List ((List ((List Nat) × Int)) × (List ((List Nat) × (List Nat))))) × (List ((List Nat) × (List (List Nat)))) × Bool × Int × (List Nat) × (List (List Nat)) × (List ((List Nat) × (List Nat))) × (List ((List Nat) × Int)) × Unit) (L := Unit) (kSeq (kSet (kU m_right_states (kPair (kV (gS gZ)) (kPair (kV (gS (gS gZ))) kU0))) (pS (pS (pS (pS (pS (pS (pS pZ)))))))) (kSeq (kFor (kRange1 (kF (fun x => (x.length : Int)) (kV (gS (gS (gS gZ)))))) (pS (pS (pS (pS (pS (pS (pS (pS pZ)))))))) l_System_2) (kSeq (kFor (kRange1 (kF (fun x => (x.length : Int)) (kV (gS (gS (gS (gS (gS (gS gZ))))))))) (pS (pS (pS (pS (pS (pS (pS (pS pZ)))))))) l_System_4) (kSeq (kFor (kRange1 (kF (fun x => (x.length : Int)) (kV (gS (gS (gS (gS gZ))))))) (pS (pS (pS (pS (pS (pS (pS (pS pZ)))))))) l_System_7) (kSeq (kFor (kRange1 (kF (fun x => (x.length : Int)) (kV (gS (gS (gS (gS (gS gZ)))))))) (pS (pS (pS (pS (pS (pS (pS (pS pZ)))))))) l_System_9) (kSeq (kIf (kF (fun x => !x) (kV (gS (gS (gS (gS (gS (gS (gS gZ))))))))) (kEr "InvalidProtocol") kNx) (kSeq (kFldNew gZ pZ (kU (fun x => .ok x) (kV (gS gZ)))) (kSeq (kFldNew gZ pZ (kV (gS (gS gZ)))) (kMv (fun s => (s.1, (s.2.1, (s.2.2.1, (s.2.2.2.1, (s.2.2.2.2.1, (s.2.2.2.2.2.1, (s.2.2.2.2.2.2.1, (s.2.2.2.2.2.2.2.1, (s.2.2.2.2.2.2.2.2.1, (s.2.2.2.2.2.2.2.2.2.1, (s.2.2.2.2.2.2.2.2.2.2.1, ([], s.2.2.2.2.2.2.2.2.2.2.2.2))))))))))))) (kSeq (kFldNew gZ pZ (kU (fun x => .ok x) (kLc (kV (gS (gS (gS gZ)))) (pP (pS (pS (pS (pS (pS (pS (pS (pS (pS pZ))))))))) (pS (pS (pS (pS (pS (pS (pS (pS (pS (pS (pS pZ)))))))))))) (kF (fun x => (x.1, x.2.1)) (kPair (kV (gS (gS (gS (gS (gS (gS (gS (gS (gS gZ)))))))))) (kPair (kU (fun x => .ok x) (kV (gS (gS (gS (gS (gS (gS (gS (gS (gS (gS (gS gZ))))))))))))) kU0)))))) (kSeq (kFldNew gZ pZ (kU (fun x => .ok x) (kLc (kV (gS (gS (gS (gS (gS (gS gZ))))))) (pP (pS (pS (pS (pS (pS (pS (pS (pS (pS pZ))))))))) (pS (pS (pS (pS (pS (pS (pS (pS (pS (pS pZ))))))))))) (kF (fun x => (x.1, x.2.1)) (kPair (kV (gS (gS (gS (gS (gS (gS (gS (gS (gS gZ)))))))))) (kPair (kU (fun x => .ok x) (kV (gS (gS (gS (gS (gS (gS (gS (gS (gS (gS gZ)))))))))))) kU0)))))) (kSeq (kFldNew gZ pZ (kU (fun x => .ok x) (kV (gS (gS (gS (gS gZ))))))) (kMv (fun s => (s.1, (s.2.1, (s.2.2.1, (s.2.2.2.1, (s.2.2.2.2.1, (s.2.2.2.2.2.1, (s.2.2.2.2.2.2.1, (s.2.2.2.2.2.2.2.1, (s.2.2.2.2.2.2.2.2.1, (s.2.2.2.2.2.2.2.2.2.1, (s.2.2.2.2.2.2.2.2.2.2.1, ([], s.2.2.2.2.2.2.2.2.2.2.2.2))))))))))))) (kFldNew gZ pZ (kU (fun x => .ok x) (kLc (kV (gS (gS (gS (gS (gS gZ)))))) (pP (pS (pS (pS (pS (pS (pS (pS (pS (pS (pS (pS (pS pZ)))))))))))) (pS (pS (pS (pS (pS (pS (pS (pS (pS (pS (pS pZ)))))))))))) (kF (fun x => (x.1, x.2.1)) (kPair (kU m_pairs_of_n (kPair (kV (gS (gS (gS (gS (gS (gS (gS (gS (gS (gS (gS (gS gZ))))))))))))) kU0)) (kPair (kU m_pairs_of (kPair (kV (gS (gS (gS (gS (gS (gS (gS (gS (gS (gS (gS gZ)))))))))))) kU0)) kU0))))))))))))))))))) (iS (iS (iS (iS (iS (iS (iS (iZ (false, 0, [], [], [], [], ()))))))))) (fun s => .ok (gZ s)) := rfl
abbrev s_System : Stmt := (inClass (topS 20) 0)
theorem sc_System : FnScope ["self", "states", "start", "variables", "rules", "bad", "channels", "valid", "k", "name", "letters", "values", "counts"] ["self", "states", "start", "variables", "rules", "bad", "channels"] (defScope s_System) := ⟨rfl, rfl, rfl, by decide +kernel, rfl, by decide +kernel, by decide +kernel⟩
theorem ok_System {C f : Addr} {fd : FuncData} (O : IniAtK K mg "System" "System.__init__" s_System ["self", "states", "start", "variables", "rules", "bad", "channels"] 5 ["channels"] C f fd) (NSystem : NASystem K C) (U : Uses K mg) {CRule : Addr} {fi_Rule : Addr} {fdi_Rule : FuncData} (ORule : IniAtK K mg "Rule" "Rule.__init__" s_Rule ["self", "name", "actors", "everyone", "born", "conditions", "effects", "hears", "sends"] 2 ["everyone", "born", "conditions", "effects", "hears", "sends"] CRule fi_Rule fdi_Rule) (NRule : NARule K CRule) {f_pairs_of : Addr} {fd_pairs_of : FuncData} (D_pairs_of : DefAt K mg "pairs_of" s_pairs_of ["pairs"] f_pairs_of fd_pairs_of) (G_pairs_of : FnOk P w K mg base (L2.CX P w) 1 f_pairs_of fd_pairs_of ["pairs"] (spP (XRm mg) (acons (fz (tLst (tP2 tTxt tTxt))) anil) (fz (tTup (tP2 tTxt tTxt))) m_pairs_of)) (G_pairs_of_n : FnOk P w K mg base (L2.CX P w) 1 f_pairs_of fd_pairs_of ["pairs"] (spP (XRm mg) (acons (fz (tLst (tP2 tTxt tInt))) anil) (fz (tTup (tP2 tTxt tInt))) m_pairs_of_n)) {f_right_channel : Addr} {fd_right_channel : FuncData} (D_right_channel : DefAt K mg "right_channel" s_right_channel ["states", "variables", "earlier", "name", "letters"] f_right_channel fd_right_channel) (G_right_channel : FnOk P w K mg base (L2.CX P w) 3 f_right_channel fd_right_channel ["states", "variables", "earlier", "name", "letters"] (spP (XRm mg) (acons (fz (tLst tTxt)) (acons (fz (tLst (tP2 tTxt (tLst tTxt)))) (acons (fz (tLst (tP2 tTxt (tLst tTxt)))) (acons (fz tTxt) (acons (fz (tLst tTxt)) anil))))) (fz tBool) m_right_channel)) {f_right_pattern : Addr} {fd_right_pattern : FuncData} (D_right_pattern : DefAt K mg "right_pattern" s_right_pattern ["states", "variables", "earlier", "pattern"] f_right_pattern fd_right_pattern) (G_right_pattern : FnOk P w K mg base (L2.CX P w) 3 f_right_pattern fd_right_pattern ["states", "variables", "earlier", "pattern"] (spP (XRm mg) (acons (fz (tLst tTxt)) (acons (fz (tLst (tP2 tTxt (tLst tTxt)))) (acons (fz (tLst (tP2 (tLst (tP2 tTxt tInt)) (tLst (tP2 tTxt tTxt))))) (acons (fz (tP2 (tLst (tP2 tTxt tInt)) (tLst (tP2 tTxt tTxt)))) anil)))) (fz tBool) m_right_pattern)) {f_right_rule : Addr} {fd_right_rule : FuncData} (D_right_rule : DefAt K mg "right_rule" s_right_rule ["states", "variables", "channels", "earlier", "rule"] f_right_rule fd_right_rule) (G_right_rule : FnOk P w K mg base (L2.CX P w) 3 f_right_rule fd_right_rule ["states", "variables", "channels", "earlier", "rule"] (spP (XRm mg) (acons (fz (tLst tTxt)) (acons (fz (tLst (tP2 tTxt (tLst tTxt)))) (acons (fz (tLst (tP2 tTxt (tLst tTxt)))) (acons (fz (tLst (tyRule CRule))) (acons (fz (tyRule CRule)) anil))))) (fz tBool) m_right_rule)) {f_right_states : Addr} {fd_right_states : FuncData} (D_right_states : DefAt K mg "right_states" s_right_states ["states", "start"] f_right_states fd_right_states) (G_right_states : FnOk P w K mg base (L2.CX P w) 3 f_right_states fd_right_states ["states", "start"] (spP (XRm mg) (acons (fz (tLst tTxt)) (acons (fz tTxt) anil)) (fz tBool) m_right_states)) {f_right_variable : Addr} {fd_right_variable : FuncData} (D_right_variable : DefAt K mg "right_variable" s_right_variable ["states", "earlier", "name", "values"] f_right_variable fd_right_variable) (G_right_variable : FnOk P w K mg base (L2.CX P w) 3 f_right_variable fd_right_variable ["states", "earlier", "name", "values"] (spP (XRm mg) (acons (fz (tLst tTxt)) (acons (fz (tLst (tP2 tTxt (tLst tTxt)))) (acons (fz tTxt) (acons (fz (tLst tTxt)) anil)))) (fz tBool) m_right_variable)) {CInvalidProtocol : Addr} (X_InvalidProtocol : ExTx K mg "InvalidProtocol" CInvalidProtocol) : FnOk P w K mg base (L2.CX P w) 4 f fd ["self", "states", "start", "variables", "rules", "bad", "channels"] (spI (XRm mg) C (frSystem CRule) (acons (fz (tLst tTxt)) (acons (fz tTxt) (acons (fz (tLst (tP2 tTxt (tLst tTxt)))) (acons (fz (tLst (tyRule CRule))) (acons (fz (tLst (tP2 (tLst (tP2 tTxt tInt)) (tLst (tP2 tTxt tTxt))))) (acons (fz (tLst (tP2 tTxt (tLst tTxt)))) anil)))))) m_System) :=
  fn_okK O.F sc_System rfl rfl (fun ad => (st_cons (st_cons (st_cons (st_cons (st_cons (st_cons (st_cons (st_nil (any_cons (any_cons (any_cons (any_cons (any_cons (any_cons any_nil))))))))))))))) (fun ad => (fall_ini At.z)) (fun ad cdv A outer s H E hr =>
    (ss_cons (sm_set sc_System.nd rfl (.inl rfl) (At.s (At.s (At.s (At.s (At.s (At.s (At.s At.z))))))) (em_call (takes_of rfl rfl rfl rfl) G_right_states (hr.mono (by decide)) (by rfl) D_right_states.g D_right_states.F.kp D_right_states.b (am_cons (em_var rfl (.inl rfl) (At.s At.z)) (am_cons (em_var rfl (.inl rfl) (At.s (At.s At.z))) am_nil))) (hf := .inl rfl)) (ss_cons (sm_forI (passes_of rfl) rfl (im_range1 (by rfl) U.range (em_len (by rfl) U.len (em_var rfl (.inl rfl) (At.s (At.s (At.s At.z)))))) MvI.refl (tgt_name sc_System.nd rfl (.inl rfl) (At.s (At.s (At.s (At.s (At.s (At.s (At.s (At.s At.z)))))))) (.inl rfl)) (ss_cons (sm_set sc_System.nd rfl (.inl rfl) (At.s (At.s (At.s (At.s (At.s (At.s (At.s At.z))))))) (em_and (em_var rfl (.inl rfl) (At.s (At.s (At.s (At.s (At.s (At.s (At.s At.z)))))))) (em_one (em_call (takes_of rfl rfl rfl rfl) G_right_variable (hr.mono (by decide)) (by rfl) D_right_variable.g D_right_variable.F.kp D_right_variable.b (am_cons (em_var rfl (.inl rfl) (At.s At.z)) (am_cons (em_freeze (em_cutL (em_var rfl (.inl rfl) (At.s (At.s (At.s At.z)))) om_none (om_some (em_var rfl (.inl rfl) (At.s (At.s (At.s (At.s (At.s (At.s (At.s (At.s At.z)))))))))))) (am_cons (em_p0 (em_ixL (fun _ _ => rfl) (em_var rfl (.inl rfl) (At.s (At.s (At.s At.z)))) (em_var rfl (.inl rfl) (At.s (At.s (At.s (At.s (At.s (At.s (At.s (At.s At.z))))))))))) (am_cons (em_p1 (em_ixL (fun _ _ => rfl) (em_var rfl (.inl rfl) (At.s (At.s (At.s At.z)))) (em_var rfl (.inl rfl) (At.s (At.s (At.s (At.s (At.s (At.s (At.s (At.s At.z))))))))))) am_nil))))))) (hf := .inl rfl)) (ss_nilI (MvI.cons SMvI.refl (MvI.cons SMvI.refl (MvI.cons SMvI.refl (MvI.cons SMvI.refl (MvI.cons SMvI.refl (MvI.cons SMvI.refl (MvI.cons SMvI.refl (MvI.cons SMvI.refl (MvI.cons SMvI.hide MvI.refl)))))))))))) (ss_cons (sm_forI (passes_of rfl) rfl (im_range1 (by rfl) U.range (em_len (by rfl) U.len (em_var rfl (.inl rfl) (At.s (At.s (At.s (At.s (At.s (At.s At.z))))))))) MvI.refl (tgt_name sc_System.nd rfl (.inl rfl) (At.s (At.s (At.s (At.s (At.s (At.s (At.s (At.s At.z)))))))) (.inl rfl)) (ss_cons (sm_unpack (R := fz (tP2 tTxt (tLst tTxt))) (tgt_pair rfl sc_System.nd rfl (.inl rfl) rfl (.inl rfl) (At.s (At.s (At.s (At.s (At.s (At.s (At.s (At.s (At.s At.z))))))))) (At.s (At.s (At.s (At.s (At.s (At.s (At.s (At.s (At.s (At.s At.z)))))))))) (fun h h2 => pg_tup rfl (pgs_cons h (pgs_cons h2 pgs_nil))) (.inl rfl) (.inl rfl)) (em_ixL (fun _ _ => rfl) (em_var rfl (.inl rfl) (At.s (At.s (At.s (At.s (At.s (At.s At.z))))))) (em_var rfl (.inl rfl) (At.s (At.s (At.s (At.s (At.s (At.s (At.s (At.s At.z)))))))))) (fun _ _ h h2 => ps_asg h h2)) (ss_cons (sm_set sc_System.nd rfl (.inl rfl) (At.s (At.s (At.s (At.s (At.s (At.s (At.s At.z))))))) (em_and (em_var rfl (.inl rfl) (At.s (At.s (At.s (At.s (At.s (At.s (At.s At.z)))))))) (em_one (em_call (takes_of rfl rfl rfl rfl) G_right_channel (hr.mono (by decide)) (by rfl) D_right_channel.g D_right_channel.F.kp D_right_channel.b (am_cons (em_var rfl (.inl rfl) (At.s At.z)) (am_cons (em_var rfl (.inl rfl) (At.s (At.s (At.s At.z)))) (am_cons (em_freeze (em_cutL (em_var rfl (.inl rfl) (At.s (At.s (At.s (At.s (At.s (At.s At.z))))))) om_none (om_some (em_var rfl (.inl rfl) (At.s (At.s (At.s (At.s (At.s (At.s (At.s (At.s At.z)))))))))))) (am_cons (em_var rfl (.inl rfl) (At.s (At.s (At.s (At.s (At.s (At.s (At.s (At.s (At.s At.z)))))))))) (am_cons (em_var rfl (.inl rfl) (At.s (At.s (At.s (At.s (At.s (At.s (At.s (At.s (At.s (At.s At.z))))))))))) am_nil)))))))) (hf := .inl rfl)) (ss_nilI (MvI.cons SMvI.refl (MvI.cons SMvI.refl (MvI.cons SMvI.refl (MvI.cons SMvI.refl (MvI.cons SMvI.refl (MvI.cons SMvI.refl (MvI.cons SMvI.refl (MvI.cons SMvI.refl (MvI.cons SMvI.hide (MvI.cons SMvI.hide (MvI.cons SMvI.hide MvI.refl))))))))))))))) (ss_cons (sm_forI (passes_of rfl) rfl (im_range1 (by rfl) U.range (em_len (by rfl) U.len (em_var rfl (.inl rfl) (At.s (At.s (At.s (At.s At.z))))))) MvI.refl (tgt_name sc_System.nd rfl (.inl rfl) (At.s (At.s (At.s (At.s (At.s (At.s (At.s (At.s At.z)))))))) (.inl rfl)) (ss_cons (sm_set sc_System.nd rfl (.inl rfl) (At.s (At.s (At.s (At.s (At.s (At.s (At.s At.z))))))) (em_and (em_var rfl (.inl rfl) (At.s (At.s (At.s (At.s (At.s (At.s (At.s At.z)))))))) (em_one (em_call (takes_of rfl rfl rfl rfl) G_right_rule (hr.mono (by decide)) (by rfl) D_right_rule.g D_right_rule.F.kp D_right_rule.b (am_cons (em_var rfl (.inl rfl) (At.s At.z)) (am_cons (em_var rfl (.inl rfl) (At.s (At.s (At.s At.z)))) (am_cons (em_var rfl (.inl rfl) (At.s (At.s (At.s (At.s (At.s (At.s At.z))))))) (am_cons (em_freeze (em_cutL (em_var rfl (.inl rfl) (At.s (At.s (At.s (At.s At.z))))) om_none (om_some (em_var rfl (.inl rfl) (At.s (At.s (At.s (At.s (At.s (At.s (At.s (At.s At.z)))))))))))) (am_cons (em_ixL (fun _ _ => rfl) (em_var rfl (.inl rfl) (At.s (At.s (At.s (At.s At.z))))) (em_var rfl (.inl rfl) (At.s (At.s (At.s (At.s (At.s (At.s (At.s (At.s At.z)))))))))) am_nil)))))))) (hf := .inl rfl)) (ss_nilI (MvI.cons SMvI.refl (MvI.cons SMvI.refl (MvI.cons SMvI.refl (MvI.cons SMvI.refl (MvI.cons SMvI.refl (MvI.cons SMvI.refl (MvI.cons SMvI.refl (MvI.cons SMvI.refl (MvI.cons SMvI.hide MvI.refl)))))))))))) (ss_cons (sm_forI (passes_of rfl) rfl (im_range1 (by rfl) U.range (em_len (by rfl) U.len (em_var rfl (.inl rfl) (At.s (At.s (At.s (At.s (At.s At.z)))))))) MvI.refl (tgt_name sc_System.nd rfl (.inl rfl) (At.s (At.s (At.s (At.s (At.s (At.s (At.s (At.s At.z)))))))) (.inl rfl)) (ss_cons (sm_set sc_System.nd rfl (.inl rfl) (At.s (At.s (At.s (At.s (At.s (At.s (At.s At.z))))))) (em_and (em_var rfl (.inl rfl) (At.s (At.s (At.s (At.s (At.s (At.s (At.s At.z)))))))) (em_one (em_call (takes_of rfl rfl rfl rfl) G_right_pattern (hr.mono (by decide)) (by rfl) D_right_pattern.g D_right_pattern.F.kp D_right_pattern.b (am_cons (em_var rfl (.inl rfl) (At.s At.z)) (am_cons (em_var rfl (.inl rfl) (At.s (At.s (At.s At.z)))) (am_cons (em_freeze (em_cutL (em_var rfl (.inl rfl) (At.s (At.s (At.s (At.s (At.s At.z)))))) om_none (om_some (em_var rfl (.inl rfl) (At.s (At.s (At.s (At.s (At.s (At.s (At.s (At.s At.z)))))))))))) (am_cons (em_ixL (fun _ _ => rfl) (em_var rfl (.inl rfl) (At.s (At.s (At.s (At.s (At.s At.z)))))) (em_var rfl (.inl rfl) (At.s (At.s (At.s (At.s (At.s (At.s (At.s (At.s At.z)))))))))) am_nil))))))) (hf := .inl rfl)) (ss_nilI (MvI.cons SMvI.refl (MvI.cons SMvI.refl (MvI.cons SMvI.refl (MvI.cons SMvI.refl (MvI.cons SMvI.refl (MvI.cons SMvI.refl (MvI.cons SMvI.refl (MvI.cons SMvI.refl (MvI.cons SMvI.hide MvI.refl)))))))))))) (ss_cons (sm_if (tm_not (tm_val (em_var rfl (.inl rfl) (At.s (At.s (At.s (At.s (At.s (At.s (At.s At.z)))))))))) (ss_one (sm_raiseT rfl (takes_of rfl rfl rfl rfl) X_InvalidProtocol rfl rfl (by rfl))) (ss_nilI MvI.refl)) (ss_cons (sm_fldNew rfl (.inl rfl) At.z (em_tupL (by rfl) U.tuple (em_var rfl (.inl rfl) (At.s At.z))) O.cl NSystem.states (by show 0 < 1000; decide)) (ss_cons (sm_fldNew rfl (.inl rfl) At.z (em_var rfl (.inl rfl) (At.s (At.s At.z))) O.cl NSystem.start (by show 1 < 1000; decide)) (ss_mvK (Mv.cons SMv.refl (Mv.cons SMv.refl (Mv.cons SMv.refl (Mv.cons SMv.refl (Mv.cons SMv.refl (Mv.cons SMv.refl (Mv.cons SMv.refl (Mv.cons SMv.refl (Mv.cons SMv.refl (Mv.cons SMv.refl (Mv.cons SMv.refl (Mv.cons (SMv.any (m := fun _ => ([]))) Mv.refl)))))))))))) (ss_cons (sm_fldNew rfl (.inl rfl) At.z (em_tupL (by rfl) U.tuple (em_freeze (em_lcK (own := [("name", 9), ("values", 11)]) rfl sc_System.nd (im_list (em_var rfl (.inl rfl) (At.s (At.s (At.s At.z))))) (blkOk_by (N := ["self", "states", "start", "variables", "rules", "bad", "channels", "valid", "k", "name", "letters", "values", "counts"]) (sc := (defScope s_System)) (by decide +kernel)) (ko_keep (by decide) (ko_keep (by decide) (ko_keep (by decide) (ko_keep (by decide) (ko_keep (by decide) (ko_keep (by decide) (ko_keep (by decide) (ko_keep (by decide) (ko_any (ko_any (ko_any (ko_any (ko_any ko_nil))))))))))))) (fun _ _ _ _ _ => (tgt_pair rfl sc_System.nd rfl (.inl (by rfl)) rfl (.inl (by rfl)) (At.s (At.s (At.s (At.s (At.s (At.s (At.s (At.s (At.s At.z))))))))) (At.s (At.s (At.s (At.s (At.s (At.s (At.s (At.s (At.s (At.s (At.s At.z))))))))))) (fun h h2 => pg_tup rfl (pgs_cons h (pgs_cons h2 pgs_nil))) (.inr (by rfl)) (.inr (by rfl)))) (fun _ _ _ _ _ => (em_tup2 (am_cons (em_var rfl (.inl (by rfl)) (At.s (At.s (At.s (At.s (At.s (At.s (At.s (At.s (At.s At.z)))))))))) (am_cons (em_tupL (by rfl) U.tuple (em_var rfl (.inl (by rfl)) (At.s (At.s (At.s (At.s (At.s (At.s (At.s (At.s (At.s (At.s (At.s At.z))))))))))))) am_nil)))) (bi_cons (bi_cons (bi_cons (bi_cons (bi_cons (bi_cons (bi_cons (bi_cons (bi_cons (bi_any (bi_cons (bi_any bi_refl))))))))))))))) O.cl NSystem.variables (by show 2 < 1000; decide)) (ss_cons (sm_fldNew rfl (.inl rfl) At.z (em_tupL (by rfl) U.tuple (em_freeze (em_lcK (own := [("name", 9), ("letters", 10)]) rfl sc_System.nd (im_list (em_var rfl (.inl rfl) (At.s (At.s (At.s (At.s (At.s (At.s At.z)))))))) (blkOk_by (N := ["self", "states", "start", "variables", "rules", "bad", "channels", "valid", "k", "name", "letters", "values", "counts"]) (sc := (defScope s_System)) (by decide +kernel)) (ko_keep (by decide) (ko_keep (by decide) (ko_keep (by decide) (ko_keep (by decide) (ko_keep (by decide) (ko_keep (by decide) (ko_keep (by decide) (ko_keep (by decide) (ko_any (ko_any (ko_any (ko_any (ko_any ko_nil))))))))))))) (fun _ _ _ _ _ => (tgt_pair rfl sc_System.nd rfl (.inl (by rfl)) rfl (.inl (by rfl)) (At.s (At.s (At.s (At.s (At.s (At.s (At.s (At.s (At.s At.z))))))))) (At.s (At.s (At.s (At.s (At.s (At.s (At.s (At.s (At.s (At.s At.z)))))))))) (fun h h2 => pg_tup rfl (pgs_cons h (pgs_cons h2 pgs_nil))) (.inr (by rfl)) (.inr (by rfl)))) (fun _ _ _ _ _ => (em_tup2 (am_cons (em_var rfl (.inl (by rfl)) (At.s (At.s (At.s (At.s (At.s (At.s (At.s (At.s (At.s At.z)))))))))) (am_cons (em_tupL (by rfl) U.tuple (em_var rfl (.inl (by rfl)) (At.s (At.s (At.s (At.s (At.s (At.s (At.s (At.s (At.s (At.s At.z)))))))))))) am_nil)))) (bi_cons (bi_cons (bi_cons (bi_cons (bi_cons (bi_cons (bi_cons (bi_cons (bi_cons (bi_any (bi_any bi_refl)))))))))))))) O.cl NSystem.channels (by show 3 < 1000; decide)) (ss_cons (sm_fldNew rfl (.inl rfl) At.z (em_tupL (by rfl) U.tuple (em_var rfl (.inl rfl) (At.s (At.s (At.s (At.s At.z)))))) O.cl NSystem.rules (by show 4 < 1000; decide)) (ss_mvK (Mv.cons SMv.refl (Mv.cons SMv.refl (Mv.cons SMv.refl (Mv.cons SMv.refl (Mv.cons SMv.refl (Mv.cons SMv.refl (Mv.cons SMv.refl (Mv.cons SMv.refl (Mv.cons SMv.refl (Mv.cons SMv.refl (Mv.cons SMv.refl (Mv.cons (SMv.any (m := fun _ => ([]))) Mv.refl)))))))))))) (ss_one (sm_fldNew rfl (.inl rfl) At.z (em_tupL (by rfl) U.tuple (em_freeze (em_lcK (own := [("counts", 12), ("values", 11)]) rfl sc_System.nd (im_list (em_var rfl (.inl rfl) (At.s (At.s (At.s (At.s (At.s At.z))))))) (blkOk_by (N := ["self", "states", "start", "variables", "rules", "bad", "channels", "valid", "k", "name", "letters", "values", "counts"]) (sc := (defScope s_System)) (by decide +kernel)) (ko_keep (by decide) (ko_keep (by decide) (ko_keep (by decide) (ko_keep (by decide) (ko_keep (by decide) (ko_keep (by decide) (ko_keep (by decide) (ko_keep (by decide) (ko_any (ko_any (ko_any (ko_any (ko_any ko_nil))))))))))))) (fun _ _ _ _ _ => (tgt_pair rfl sc_System.nd rfl (.inl (by rfl)) rfl (.inl (by rfl)) (At.s (At.s (At.s (At.s (At.s (At.s (At.s (At.s (At.s (At.s (At.s (At.s At.z)))))))))))) (At.s (At.s (At.s (At.s (At.s (At.s (At.s (At.s (At.s (At.s (At.s At.z))))))))))) (fun h h2 => pg_tup rfl (pgs_cons h (pgs_cons h2 pgs_nil))) (.inr (by rfl)) (.inr (by rfl)))) (fun _ _ _ _ _ => (em_tup2 (am_cons (em_call takes0 G_pairs_of_n (hr.mono (by decide)) (by rfl) D_pairs_of.g D_pairs_of.F.kp D_pairs_of.b (am_cons (em_var rfl (.inl (by rfl)) (At.s (At.s (At.s (At.s (At.s (At.s (At.s (At.s (At.s (At.s (At.s (At.s At.z))))))))))))) am_nil)) (am_cons (em_call takes0 G_pairs_of (hr.mono (by decide)) (by rfl) D_pairs_of.g D_pairs_of.F.kp D_pairs_of.b (am_cons (em_var rfl (.inl (by rfl)) (At.s (At.s (At.s (At.s (At.s (At.s (At.s (At.s (At.s (At.s (At.s At.z)))))))))))) am_nil)) am_nil)))) (bi_cons (bi_cons (bi_cons (bi_cons (bi_cons (bi_cons (bi_cons (bi_cons (bi_cons (bi_cons (bi_cons (bi_any (bi_any bi_refl)))))))))))))))) O.cl NSystem.bad (by show 5 < 1000; decide)))))))))))))))))
/-! ### _law_draws -/
noncomputable def m__law_draws : (List Int) × Int × Unit → Res (List Int) := kRun (S := (List Int) × Int × (List Int) × (List Int) × Int × Int × Int × Int × Int × Unit) (S' := Unit) (L := Unit) (kSeq (kSet (kU (fun x => .ok x) (kV gZ)) (pS (pS pZ))) (kSeq (kIf (kCmp mEq (kLenO (gS (gS gZ))) (kC (0 : Int))) (kSet (kCons (kC (7 : Int)) kNil) (pS (pS pZ))) kNx) (kSeq (kSet (kNil (α := Int)) (pS (pS (pS pZ)))) (kSeq (kSet (kC (12345 : Int)) (pS (pS (pS (pS pZ))))) (kSeq (kFor (kRange1 (kV (gS gZ))) (pS (pS (pS (pS (pS pZ))))) (kSeq (kSet (kB mMod (kV (gS (gS (gS (gS (gS gZ)))))) (kLenO (gS (gS gZ)))) (pS (pS (pS (pS (pS (pS pZ))))))) (kSeq (kSet (kIxO (gS (gS gZ)) (kV (gS (gS (gS (gS (gS (gS gZ)))))))) (pS (pS (pS (pS (pS (pS (pS pZ)))))))) (kSeq (kSet (kB mMod (kU (fun x => .ok x) (kB mAdd (kB mAdd (kB mAdd (kB mMul (kV (gS (gS (gS (gS gZ))))) (kC (48271 : Int))) (kB mMul (kB mMod (kU (fun x => .ok x) (kV (gS (gS (gS (gS (gS (gS (gS gZ))))))))) (kC (1000003 : Int))) (kC (69621 : Int)))) (kB mMul (kV (gS (gS (gS (gS (gS gZ)))))) (kC (7919 : Int)))) (kC (11 : Int)))) (kC (2147483647 : Int))) (pS (pS (pS (pS pZ))))) (kSeq (kSet (kB mMod (kU (fun x => .ok x) (kB mAdd (kB mAdd (kB mMul (kV (gS (gS (gS (gS gZ))))) (kV (gS (gS (gS (gS gZ)))))) (kB mMul (kC (31 : Int)) (kV (gS (gS (gS (gS gZ))))))) (kV (gS (gS (gS (gS (gS gZ)))))))) (kC (1000003 : Int))) (pS (pS (pS (pS (pS (pS (pS (pS pZ))))))))) (kSeq (kIf (kCmp mGe (kV (gS (gS (gS (gS (gS (gS (gS gZ)))))))) (kB mPow (kC (10 : Int)) (kC (18 : Int)))) (kSeq (kApp (gS (gS (gS gZ))) (pS (pS (pS pZ))) (kB mMod (kU (fun x => .ok x) (kV (gS (gS (gS (gS (gS (gS (gS gZ))))))))) (kC (1000 : Int)))) (kStore (gS (gS gZ)) (pS (pS pZ)) (kB mDiv (kV (gS (gS (gS (gS (gS (gS (gS gZ)))))))) (kC (1000 : Int))) (kV (gS (gS (gS (gS (gS (gS gZ))))))))) (kApp (gS (gS (gS gZ))) (pS (pS (pS pZ))) (kB mMod (kU (fun x => .ok x) (kV (gS (gS (gS (gS (gS (gS (gS (gS gZ)))))))))) (kC (1000 : Int))))) kNx)))))) (kSeq (kRev (gS (gS (gS gZ))) (pS (pS (pS pZ)))) (kRet (kV (gS (gS (gS gZ))))))))))) (iS (iS (iZ ([], [], 0, 0, 0, 0, 0, ())))) (fun _ => .bad)
noncomputable def l__law_draws_6 : ((List Int) × Int × (List Int) × (List Int) × Int × Int × Int × Int × Int × Unit) → Out ((List Int) × Int × (List Int) × (List Int) × Int × Int × Int × Int × Int × Unit) ((List Int) × Int × (List Int) × (List Int) × Int × Int × Int × Int × Int × Unit) (List Int) := (kSeq (kSet (kB mMod (kV (gS (gS (gS (gS (gS gZ)))))) (kLenO (gS (gS gZ)))) (pS (pS (pS (pS (pS (pS pZ))))))) (kSeq (kSet (kIxO (gS (gS gZ)) (kV (gS (gS (gS (gS (gS (gS gZ)))))))) (pS (pS (pS (pS (pS (pS (pS pZ)))))))) (kSeq (kSet (kB mMod (kU (fun x => .ok x) (kB mAdd (kB mAdd (kB mAdd (kB mMul (kV (gS (gS (gS (gS gZ))))) (kC (48271 : Int))) (kB mMul (kB mMod (kU (fun x => .ok x) (kV (gS (gS (gS (gS (gS (gS (gS gZ))))))))) (kC (1000003 : Int))) (kC (69621 : Int)))) (kB mMul (kV (gS (gS (gS (gS (gS gZ)))))) (kC (7919 : Int)))) (kC (11 : Int)))) (kC (2147483647 : Int))) (pS (pS (pS (pS pZ))))) (kSeq (kSet (kB mMod (kU (fun x => .ok x) (kB mAdd (kB mAdd (kB mMul (kV (gS (gS (gS (gS gZ))))) (kV (gS (gS (gS (gS gZ)))))) (kB mMul (kC (31 : Int)) (kV (gS (gS (gS (gS gZ))))))) (kV (gS (gS (gS (gS (gS gZ)))))))) (kC (1000003 : Int))) (pS (pS (pS (pS (pS (pS (pS (pS pZ))))))))) (kSeq (kIf (kCmp mGe (kV (gS (gS (gS (gS (gS (gS (gS gZ)))))))) (kB mPow (kC (10 : Int)) (kC (18 : Int)))) (kSeq (kApp (gS (gS (gS gZ))) (pS (pS (pS pZ))) (kB mMod (kU (fun x => .ok x) (kV (gS (gS (gS (gS (gS (gS (gS gZ))))))))) (kC (1000 : Int)))) (kStore (gS (gS gZ)) (pS (pS pZ)) (kB mDiv (kV (gS (gS (gS (gS (gS (gS (gS gZ)))))))) (kC (1000 : Int))) (kV (gS (gS (gS (gS (gS (gS gZ))))))))) (kApp (gS (gS (gS gZ))) (pS (pS (pS pZ))) (kB mMod (kU (fun x => .ok x) (kV (gS (gS (gS (gS (gS (gS (gS (gS gZ)))))))))) (kC (1000 : Int))))) kNx)))))
theorem n__law_draws : m__law_draws = kRun (S := (List Int) × Int × (List Int) × (List Int) × Int × Int × Int × Int × Int × Unit) (S' := Unit) (L := Unit) (kSeq (kSet (kU (fun x => .ok x) (kV gZ)) (pS (pS pZ))) (kSeq (kIf (kCmp mEq (kLenO (gS (gS gZ))) (kC (0 : Int))) (kSet (kCons (kC (7 : Int)) kNil) (pS (pS pZ))) kNx) (kSeq (kSet (kNil (α := Int)) (pS (pS (pS pZ)))) (kSeq (kSet (kC (12345 : Int)) (pS (pS (pS (pS pZ))))) (kSeq (kFor (kRange1 (kV (gS gZ))) (pS (pS (pS (pS (pS pZ))))) l__law_draws_6) (kSeq (kRev (gS (gS (gS gZ))) (pS (pS (pS pZ)))) (kRet (kV (gS (gS (gS gZ))))))))))) (iS (iS (iZ ([], [], 0, 0, 0, 0, 0, ())))) (fun _ => .bad) := rfl
abbrev s__law_draws : Stmt := (topS 22)
theorem sc__law_draws : FnScope ["_law_script", "_law_count", "_law_cells", "_law_found", "_law_mixed", "_law_k", "_law_j", "_law_cell", "_law_again"] ["_law_script", "_law_count"] (defScope s__law_draws) := ⟨rfl, rfl, rfl, by decide +kernel, rfl, by decide +kernel, by decide +kernel⟩
theorem ok__law_draws {f : Addr} {fd : FuncData} (D : DefAt K mg "_law_draws" s__law_draws ["_law_script", "_law_count"] f fd) (U : Uses K mg)  : FnOk P w K mg base (L2.CX P w) 1 f fd ["_law_script", "_law_count"] (spP (XRm mg) (acons (fz (tScr K tInt)) (acons (fz tInt) anil)) (oL tInt) m__law_draws) :=
  fn_okK (G1 := fun _ => gnil) D.F sc__law_draws rfl rfl (fun _ => (st_cons (st_cons (st_nil (any_cons (any_cons (any_cons (any_cons (any_cons (any_cons (any_cons any_nil))))))))))) (fun _ => fall_bad) (fun _ cdv A outer s H E hr =>
    (ss_cons (sm_set sc__law_draws.nd rfl (.inl rfl) (At.s (At.s At.z)) (em_listS (by rfl) U.list (em_var rfl (.inl rfl) At.z)) (hf := .inl rfl)) (ss_cons (sm_if (tm_c (cm_eqS scInt) (nomark _) (em_lenO (by rfl) U.len rfl (.inl rfl) (At.s (At.s At.z))) em_int) (ss_one (sm_set sc__law_draws.nd rfl (.inl rfl) (At.s (At.s At.z)) (em_lstN (am_hcons em_int (am_hnil (T := tInt))) (ln_cons ln_nil) (by decide)) (hf := .inl rfl))) (ss_nilI MvI.refl)) (ss_cons (sm_set sc__law_draws.nd rfl (.inl rfl) (At.s (At.s (At.s At.z))) (em_lstN (am_hnil (T := tInt)) ln_nil (by decide)) (hf := .inl rfl)) (ss_cons (sm_set sc__law_draws.nd rfl (.inl rfl) (At.s (At.s (At.s (At.s At.z)))) em_int (hf := .inl rfl)) (ss_cons (sm_forI (passes_of rfl) rfl (im_range1 (by rfl) U.range (em_var rfl (.inl rfl) (At.s At.z))) MvI.refl (tgt_name sc__law_draws.nd rfl (.inl rfl) (At.s (At.s (At.s (At.s (At.s At.z))))) (.inl rfl)) (ss_cons (sm_set sc__law_draws.nd rfl (.inl rfl) (At.s (At.s (At.s (At.s (At.s (At.s At.z)))))) (em_mod (em_var rfl (.inl rfl) (At.s (At.s (At.s (At.s (At.s At.z)))))) (em_lenO (by rfl) U.len rfl (.inl rfl) (At.s (At.s At.z)))) (hf := .inl rfl)) (ss_cons (sm_set sc__law_draws.nd rfl (.inl rfl) (At.s (At.s (At.s (At.s (At.s (At.s (At.s At.z))))))) (em_ixO rfl (.inl rfl) (At.s (At.s At.z)) (fun _ _ => rfl) (em_var rfl (.inl rfl) (At.s (At.s (At.s (At.s (At.s (At.s At.z)))))))) (hf := .inl rfl)) (ss_cons (sm_set sc__law_draws.nd rfl (.inl rfl) (At.s (At.s (At.s (At.s At.z)))) (em_mod (em_intI (by rfl) U.int (em_add (em_add (em_add (em_mul (em_var rfl (.inl rfl) (At.s (At.s (At.s (At.s At.z))))) em_int) (em_mul (em_mod (em_intI (by rfl) U.int (em_var rfl (.inl rfl) (At.s (At.s (At.s (At.s (At.s (At.s (At.s At.z))))))))) em_int) em_int)) (em_mul (em_var rfl (.inl rfl) (At.s (At.s (At.s (At.s (At.s At.z)))))) em_int)) em_int)) em_int) (hf := .inl rfl)) (ss_cons (sm_set sc__law_draws.nd rfl (.inl rfl) (At.s (At.s (At.s (At.s (At.s (At.s (At.s (At.s At.z)))))))) (em_mod (em_intI (by rfl) U.int (em_add (em_add (em_mul (em_var rfl (.inl rfl) (At.s (At.s (At.s (At.s At.z))))) (em_var rfl (.inl rfl) (At.s (At.s (At.s (At.s At.z)))))) (em_mul em_int (em_var rfl (.inl rfl) (At.s (At.s (At.s (At.s At.z))))))) (em_var rfl (.inl rfl) (At.s (At.s (At.s (At.s (At.s At.z)))))))) em_int) (hf := .inl rfl)) (ss_cons (sm_if (tm_c cm_ge (nomark _) (em_var rfl (.inl rfl) (At.s (At.s (At.s (At.s (At.s (At.s (At.s At.z)))))))) (em_pow em_int em_int)) (ss_cons (sm_append rfl (.inl rfl) (At.s (At.s (At.s At.z))) (em_mod (em_intI (by rfl) U.int (em_var rfl (.inl rfl) (At.s (At.s (At.s (At.s (At.s (At.s (At.s At.z))))))))) em_int) (fun _ _ h h2 => pe_bm PySem.F.plainAttrs_list PySem.F.slot_list_append PySem.F.type_list_append mt_append h (pa_cons h2 pa_nil))) (ss_one (sm_setIx rfl (.inl rfl) (At.s (At.s At.z)) (em_fdiv (em_var rfl (.inl rfl) (At.s (At.s (At.s (At.s (At.s (At.s (At.s At.z)))))))) em_int) (em_var rfl (.inl rfl) (At.s (At.s (At.s (At.s (At.s (At.s At.z))))))) (fun _ _ _ h h2 h3 => ps_asg h (pg_sub h2 h3 set_list))))) (ss_one (sm_append rfl (.inl rfl) (At.s (At.s (At.s At.z))) (em_mod (em_intI (by rfl) U.int (em_var rfl (.inl rfl) (At.s (At.s (At.s (At.s (At.s (At.s (At.s (At.s At.z)))))))))) em_int) (fun _ _ h h2 => pe_bm PySem.F.plainAttrs_list PySem.F.slot_list_append PySem.F.type_list_append mt_append h (pa_cons h2 pa_nil))))) (ss_nilI (MvI.cons SMvI.refl (MvI.cons SMvI.refl (MvI.cons SMvI.refl (MvI.cons SMvI.refl (MvI.cons SMvI.refl (MvI.cons SMvI.hide (MvI.cons SMvI.hide (MvI.cons SMvI.hide (MvI.cons SMvI.hide MvI.refl)))))))))))))))) (ss_cons (sm_reverse rfl (.inl rfl) (At.s (At.s (At.s At.z))) (fun _ h => pe_bm0 PySem.F.plainAttrs_list PySem.F.slot_list_reverse PySem.F.type_list_reverse mt_reverse h)) (ss_one (sm_retO rfl (.inl rfl) (At.s (At.s (At.s At.z))))))))))))
/-! ### _law_take -/
noncomputable def m__law_take : (List Int) × Int × Unit → Res (Int × List Int) := kRun (S := (List Int) × Int × Unit) (S' := Unit) (L := Unit) (kSeq (kIf (kCmp mEq (kLenO gZ) (kC (0 : Int))) (kRetL gZ (kC (0 : Int))) kNx) (kRetL gZ (kB mMod (kU (fun x => .ok x) (kPop gZ pZ)) (kV (gS gZ))))) (iS (iS (iZ ()))) (fun _ => .bad)
abbrev s__law_take : Stmt := (topS 23)
theorem sc__law_take : FnScope ["_law_draws_here", "_law_limit"] ["_law_draws_here", "_law_limit"] (defScope s__law_take) := ⟨rfl, rfl, rfl, by decide +kernel, rfl, by decide +kernel, by decide +kernel⟩
theorem ok__law_take {f : Addr} {fd : FuncData} (D : DefAt K mg "_law_take" s__law_take ["_law_draws_here", "_law_limit"] f fd) (U : Uses K mg)  : FnOk P w K mg base (L2.CX P w) 1 f fd ["_law_draws_here", "_law_limit"] (spL (XRm mg) tInt (acons (fz tInt) anil) (fz tInt) m__law_take) :=
  fn_okK (G1 := fun _ => gnil) D.F sc__law_take rfl rfl (fun ad => (st_cons (st_cons (st_nil any_nil)))) (fun ad => fall_bad) (fun ad cdv A outer s H E hr =>
    (ss_cons (sm_if (tm_c (cm_eqS scInt) (nomark _) (em_lenO (by rfl) U.len rfl (.inl rfl) At.z) em_int) (ss_one (sm_retL At.z em_int)) (ss_nilI MvI.refl)) (ss_one (sm_retL At.z (em_mod (em_intI (by rfl) U.int (em_pop rfl (.inl rfl) At.z (fun _ h => pe_bm0 PySem.F.plainAttrs_list PySem.F.slot_list_pop PySem.F.type_list_pop mt_pop h))) (em_var rfl (.inl rfl) (At.s At.z)))))))
/-! ### _law_target -/
noncomputable def m__law_target : (List Int) × (List (List Nat)) × Unit → Res ((List Nat) × List Int) := kRun (S := (List Int) × (List (List Nat)) × Unit) (S' := Unit) (L := Unit) (kSeq (kIf (kCmp mEq (kCallL m__law_take gZ pZ (kPair (kC (9 : Int)) kU0)) (kC (0 : Int))) (kRetL gZ (kC ([103, 111, 110, 101] : List Nat))) kNx) (kRetL gZ (kB mIx (kV (gS gZ)) (kCallL m__law_take gZ pZ (kPair (kF (fun x => (x.length : Int)) (kV (gS gZ))) kU0))))) (iS (iS (iZ ()))) (fun _ => .bad)
abbrev s__law_target : Stmt := (topS 24)
theorem sc__law_target : FnScope ["_law_draws_here", "_law_states"] ["_law_draws_here", "_law_states"] (defScope s__law_target) := ⟨rfl, rfl, rfl, by decide +kernel, rfl, by decide +kernel, by decide +kernel⟩
theorem ok__law_target {f : Addr} {fd : FuncData} (D : DefAt K mg "_law_target" s__law_target ["_law_draws_here", "_law_states"] f fd) (U : Uses K mg) {f__law_take : Addr} {fd__law_take : FuncData} (D__law_take : DefAt K mg "_law_take" s__law_take ["_law_draws_here", "_law_limit"] f__law_take fd__law_take) (G__law_take : FnOk P w K mg base (L2.CX P w) 1 f__law_take fd__law_take ["_law_draws_here", "_law_limit"] (spL (XRm mg) tInt (acons (fz tInt) anil) (fz tInt) m__law_take)) : FnOk P w K mg base (L2.CX P w) 2 f fd ["_law_draws_here", "_law_states"] (spL (XRm mg) tInt (acons (fz (tLst tTxt)) anil) (fz tTxt) m__law_target) :=
  fn_okK (G1 := fun _ => gnil) D.F sc__law_target rfl rfl (fun ad => (st_cons (st_cons (st_nil any_nil)))) (fun ad => fall_bad) (fun ad cdv A outer s H E hr =>
    (ss_cons (sm_if (tm_c (cm_eqS scInt) (nomark _) (em_callL (takes_of rfl rfl rfl rfl) G__law_take (hr.mono (by decide)) (by rfl) D__law_take.g D__law_take.F.kp D__law_take.b rfl (.inl rfl) At.z (am_cons em_int am_nil)) em_int) (ss_one (sm_retL At.z (em_txt (x := ([103, 111, 110, 101] : List Nat)) (by decide +kernel) (by decide)))) (ss_nilI MvI.refl)) (ss_one (sm_retL At.z (em_ixL (fun _ _ => rfl) (em_var rfl (.inl rfl) (At.s At.z)) (em_callL (takes_of rfl rfl rfl rfl) G__law_take (hr.mono (by decide)) (by rfl) D__law_take.g D__law_take.F.kp D__law_take.b rfl (.inl rfl) At.z (am_cons (em_len (by rfl) U.len (em_var rfl (.inl rfl) (At.s At.z))) am_nil)))))))
/-! ### _law_values -/
noncomputable def m__law_values : (List Int) × (List ((List Nat) × (List (List Nat)))) × Int × Unit → Res ((List ((List Nat) × (List Nat))) × List Int) := kRun (S := (List Int) × (List ((List Nat) × (List (List Nat)))) × Int × (List ((List Nat) × (List Nat))) × ((List Nat) × (List (List Nat))) × Unit) (S' := Unit) (L := Unit) (kSeq (kSet (kNil (α := ((List Nat) × (List Nat)))) (pS (pS (pS pZ)))) (kSeq (kFor (kV (gS gZ)) (pS (pS (pS (pS pZ)))) (kSeq (kIf (kCmp mLt (kCallL m__law_take gZ pZ (kPair (kC (6 : Int)) kU0)) (kV (gS (gS gZ)))) (kApp (gS (gS (gS gZ))) (pS (pS (pS pZ))) (kF (fun x => (x.1, x.2.1)) (kPair (kF (fun x => x.1) (kV (gS (gS (gS (gS gZ)))))) (kPair (kB mIx (kF (fun x => x.2) (kV (gS (gS (gS (gS gZ)))))) (kCallL m__law_take gZ pZ (kPair (kF (fun x => (x.length : Int)) (kF (fun x => x.2) (kV (gS (gS (gS (gS gZ))))))) kU0))) kU0)))) kNx) kNx)) (kRetL gZ (kV (gS (gS (gS gZ))))))) (iS (iS (iS (iZ ([], ([], []), ()))))) (fun _ => .bad)
noncomputable def l__law_values_2 : ((List Int) × (List ((List Nat) × (List (List Nat)))) × Int × (List ((List Nat) × (List Nat))) × ((List Nat) × (List (List Nat))) × Unit) → Out ((List Int) × (List ((List Nat) × (List (List Nat)))) × Int × (List ((List Nat) × (List Nat))) × ((List Nat) × (List (List Nat))) × Unit) ((List Int) × (List ((List Nat) × (List (List Nat)))) × Int × (List ((List Nat) × (List Nat))) × ((List Nat) × (List (List Nat))) × Unit) ((List ((List Nat) × (List Nat))) × List Int) := (kSeq (kIf (kCmp mLt (kCallL m__law_take gZ pZ (kPair (kC (6 : Int)) kU0)) (kV (gS (gS gZ)))) (kApp (gS (gS (gS gZ))) (pS (pS (pS pZ))) (kF (fun x => (x.1, x.2.1)) (kPair (kF (fun x => x.1) (kV (gS (gS (gS (gS gZ)))))) (kPair (kB mIx (kF (fun x => x.2) (kV (gS (gS (gS (gS gZ)))))) (kCallL m__law_take gZ pZ (kPair (kF (fun x => (x.length : Int)) (kF (fun x => x.2) (kV (gS (gS (gS (gS gZ))))))) kU0))) kU0)))) kNx) kNx)
theorem n__law_values : m__law_values = kRun (S := (List Int) × (List ((List Nat) × (List (List Nat)))) × Int × (List ((List Nat) × (List Nat))) × ((List Nat) × (List (List Nat))) × Unit) (S' := Unit) (L := Unit) (kSeq (kSet (kNil (α := ((List Nat) × (List Nat)))) (pS (pS (pS pZ)))) (kSeq (kFor (kV (gS gZ)) (pS (pS (pS (pS pZ)))) l__law_values_2) (kRetL gZ (kV (gS (gS (gS gZ))))))) (iS (iS (iS (iZ ([], ([], []), ()))))) (fun _ => .bad) := rfl
abbrev s__law_values : Stmt := (topS 25)
theorem sc__law_values : FnScope ["_law_draws_here", "_law_pairs", "_law_share", "_law_found", "_law_pair"] ["_law_draws_here", "_law_pairs", "_law_share"] (defScope s__law_values) := ⟨rfl, rfl, rfl, by decide +kernel, rfl, by decide +kernel, by decide +kernel⟩
theorem ok__law_values {f : Addr} {fd : FuncData} (D : DefAt K mg "_law_values" s__law_values ["_law_draws_here", "_law_pairs", "_law_share"] f fd) (U : Uses K mg) {f__law_take : Addr} {fd__law_take : FuncData} (D__law_take : DefAt K mg "_law_take" s__law_take ["_law_draws_here", "_law_limit"] f__law_take fd__law_take) (G__law_take : FnOk P w K mg base (L2.CX P w) 1 f__law_take fd__law_take ["_law_draws_here", "_law_limit"] (spL (XRm mg) tInt (acons (fz tInt) anil) (fz tInt) m__law_take)) : FnOk P w K mg base (L2.CX P w) 2 f fd ["_law_draws_here", "_law_pairs", "_law_share"] (spL (XRm mg) tInt (acons (fz (tLst (tP2 tTxt (tLst tTxt)))) (acons (fz tInt) anil)) (fz (tLst (tP2 tTxt tTxt))) m__law_values) :=
  fn_okK (G1 := fun _ => gnil) D.F sc__law_values rfl rfl (fun ad => (st_cons (st_cons (st_cons (st_nil (any_cons (any_cons any_nil))))))) (fun ad => fall_bad) (fun ad cdv A outer s H E hr =>
    (ss_cons (sm_set sc__law_values.nd rfl (.inl rfl) (At.s (At.s (At.s At.z))) (em_lstN (am_hnil (T := (tP2 tTxt tTxt))) ln_nil (by decide)) (hf := .inl rfl)) (ss_cons (sm_forI (passes_of rfl) rfl (im_list (em_var rfl (.inl rfl) (At.s At.z))) MvI.refl (tgt_name sc__law_values.nd rfl (.inl rfl) (At.s (At.s (At.s (At.s At.z)))) (.inl rfl)) (ss_cons (sm_if (tm_c cm_lt (nomark _) (em_callL (takes_of rfl rfl rfl rfl) G__law_take (hr.mono (by decide)) (by rfl) D__law_take.g D__law_take.F.kp D__law_take.b rfl (.inl rfl) At.z (am_cons em_int am_nil)) (em_var rfl (.inl rfl) (At.s (At.s At.z)))) (ss_one (sm_append rfl (.inl rfl) (At.s (At.s (At.s At.z))) (em_tup2 (am_cons (em_p0 (em_var rfl (.inl rfl) (At.s (At.s (At.s (At.s At.z)))))) (am_cons (em_ixL (fun _ _ => rfl) (em_p1 (em_var rfl (.inl rfl) (At.s (At.s (At.s (At.s At.z)))))) (em_callL (takes_of rfl rfl rfl rfl) G__law_take (hr.mono (by decide)) (by rfl) D__law_take.g D__law_take.F.kp D__law_take.b rfl (.inl rfl) At.z (am_cons (em_len (by rfl) U.len (em_p1 (em_var rfl (.inl rfl) (At.s (At.s (At.s (At.s At.z))))))) am_nil))) am_nil))) (fun _ _ h h2 => pe_bm PySem.F.plainAttrs_list PySem.F.slot_list_append PySem.F.type_list_append mt_append h (pa_cons h2 pa_nil)))) (ss_nilI MvI.refl)) (ss_nilI (MvI.cons SMvI.refl (MvI.cons SMvI.refl (MvI.cons SMvI.refl (MvI.cons SMvI.refl (MvI.cons SMvI.hide MvI.refl)))))))) (ss_mvI (MvI.cons SMvI.refl (MvI.cons SMvI.refl (MvI.cons SMvI.refl (MvI.cons SMvI.freeze MvI.refl)))) (ss_one (sm_retL At.z (em_var rfl (.inl rfl) (At.s (At.s (At.s At.z))))))))))
/-! ### _law_rule -/
noncomputable def m__law_rule : (List Int) × (List Nat) × (List (List Nat)) × (List ((List Nat) × (List (List Nat)))) × (List ((List Nat) × (List (List Nat)))) × Unit → Res (((List Nat) × (List ((List Nat) × (List Nat))) × (List ((List Nat) × (List Nat))) × (List (List Nat)) × (List ((List Nat) × (List Nat))) × (List ((List Nat) × (List Nat))) × (List ((List Nat) × (List Nat))) × (List ((List Nat) × (List Nat))) × Unit) × List Int) := kRun (S := (List Int) × (List Nat) × (List (List Nat)) × (List ((List Nat) × (List (List Nat)))) × (List ((List Nat) × (List (List Nat)))) × (List ((List Nat) × (List Nat))) × Int × (List ((List Nat) × (List Nat))) × (List (List Nat)) × (List ((List Nat) × (List Nat))) × (List ((List Nat) × (List Nat))) × (List ((List Nat) × (List Nat))) × (List Nat) × (List Nat) × Unit) (S' := Unit) (L := Unit) (kSeq (kSet (kNil (α := ((List Nat) × (List Nat)))) (pS (pS (pS (pS (pS pZ)))))) (kSeq (kFor (kRange1 (kB mIx (kCons (kC (1 : Int)) (kCons (kC (1 : Int)) (kCons (kC (2 : Int)) (kCons (kC (1 : Int)) (kCons (kC (2 : Int)) (kCons (kC (3 : Int)) kNil)))))) (kCallL m__law_take gZ pZ (kPair (kC (6 : Int)) kU0)))) (pS (pS (pS (pS (pS (pS pZ)))))) (kSeq (kSet (kB mIx (kV (gS (gS gZ))) (kCallL m__law_take gZ pZ (kPair (kF (fun x => (x.length : Int)) (kV (gS (gS gZ)))) kU0))) (pS (pS (pS (pS (pS (pS (pS (pS (pS (pS (pS (pS pZ))))))))))))) (kSeq (kApp (gS (gS (gS (gS (gS gZ))))) (pS (pS (pS (pS (pS pZ))))) (kF (fun x => (x.1, x.2.1)) (kPair (kV (gS (gS (gS (gS (gS (gS (gS (gS (gS (gS (gS (gS gZ))))))))))))) (kPair (kCallL m__law_target gZ pZ (kPair (kV (gS (gS gZ))) kU0)) kU0)))) kNx))) (kSeq (kSet (kNil (α := ((List Nat) × (List Nat)))) (pS (pS (pS (pS (pS (pS (pS pZ)))))))) (kSeq (kIf (kCmp mEq (kCallL m__law_take gZ pZ (kPair (kC (4 : Int)) kU0)) (kC (0 : Int))) (kFor (kV (gS (gS gZ))) (pS (pS (pS (pS (pS (pS (pS (pS (pS (pS (pS (pS (pS pZ))))))))))))) (kSeq (kIf (kCmp mEq (kCallL m__law_take gZ pZ (kPair (kC (2 : Int)) kU0)) (kC (0 : Int))) (kApp (gS (gS (gS (gS (gS (gS (gS gZ))))))) (pS (pS (pS (pS (pS (pS (pS pZ))))))) (kF (fun x => (x.1, x.2.1)) (kPair (kV (gS (gS (gS (gS (gS (gS (gS (gS (gS (gS (gS (gS (gS gZ)))))))))))))) (kPair (kCallL m__law_target gZ pZ (kPair (kV (gS (gS gZ))) kU0)) kU0)))) kNx) kNx)) kNx) (kSeq (kSet (kNil (α := (List Nat))) (pS (pS (pS (pS (pS (pS (pS (pS pZ))))))))) (kSeq (kIf (kCmp mEq (kCallL m__law_take gZ pZ (kPair (kC (5 : Int)) kU0)) (kC (0 : Int))) (kSeq (kSet (kLc (kRange1 (kB mAdd (kC (1 : Int)) (kCallL m__law_take gZ pZ (kPair (kC (2 : Int)) kU0)))) (pS (pS (pS (pS (pS (pS pZ)))))) (kB mIx (kV (gS (gS gZ))) (kCallL m__law_take gZ pZ (kPair (kF (fun x => (x.length : Int)) (kV (gS (gS gZ)))) kU0)))) (pS (pS (pS (pS (pS (pS (pS (pS pZ))))))))) kNx) kNx) (kSeq (kSet (kCallL m__law_values gZ pZ (kPair (kV (gS (gS (gS gZ)))) (kPair (kC (3 : Int)) kU0))) (pS (pS (pS (pS (pS (pS (pS (pS (pS pZ)))))))))) (kSeq (kSet (kCallL m__law_values gZ pZ (kPair (kV (gS (gS (gS gZ)))) (kPair (kC (3 : Int)) kU0))) (pS (pS (pS (pS (pS (pS (pS (pS (pS (pS pZ))))))))))) (kSeq (kSet (kCallL m__law_values gZ pZ (kPair (kV (gS (gS (gS (gS gZ))))) (kPair (kC (2 : Int)) kU0))) (pS (pS (pS (pS (pS (pS (pS (pS (pS (pS (pS pZ)))))))))))) (kRetL gZ (kPair (kV (gS gZ)) (kPair (kV (gS (gS (gS (gS (gS gZ)))))) (kPair (kV (gS (gS (gS (gS (gS (gS (gS gZ)))))))) (kPair (kV (gS (gS (gS (gS (gS (gS (gS (gS gZ))))))))) (kPair (kV (gS (gS (gS (gS (gS (gS (gS (gS (gS gZ)))))))))) (kPair (kV (gS (gS (gS (gS (gS (gS (gS (gS (gS (gS gZ))))))))))) (kPair (kV (gS (gS (gS (gS (gS (gS (gS (gS (gS (gS (gS gZ)))))))))))) (kPair (kCallL m__law_values gZ pZ (kPair (kV (gS (gS (gS (gS gZ))))) (kPair (kC (2 : Int)) kU0))) kU0)))))))))))))))))) (iS (iS (iS (iS (iS (iZ ([], 0, [], [], [], [], [], [], [], ()))))))) (fun _ => .bad)
noncomputable def l__law_rule_2 : ((List Int) × (List Nat) × (List (List Nat)) × (List ((List Nat) × (List (List Nat)))) × (List ((List Nat) × (List (List Nat)))) × (List ((List Nat) × (List Nat))) × Int × (List ((List Nat) × (List Nat))) × (List (List Nat)) × (List ((List Nat) × (List Nat))) × (List ((List Nat) × (List Nat))) × (List ((List Nat) × (List Nat))) × (List Nat) × (List Nat) × Unit) → Out ((List Int) × (List Nat) × (List (List Nat)) × (List ((List Nat) × (List (List Nat)))) × (List ((List Nat) × (List (List Nat)))) × (List ((List Nat) × (List Nat))) × Int × (List ((List Nat) × (List Nat))) × (List (List Nat)) × (List ((List Nat) × (List Nat))) × (List ((List Nat) × (List Nat))) × (List ((List Nat) × (List Nat))) × (List Nat) × (List Nat) × Unit) ((List Int) × (List Nat) × (List (List Nat)) × (List ((List Nat) × (List (List Nat)))) × (List ((List Nat) × (List (List Nat)))) × (List ((List Nat) × (List Nat))) × Int × (List ((List Nat) × (List Nat))) × (List (List Nat)) × (List ((List Nat) × (List Nat))) × (List ((List Nat) × (List Nat))) × (List ((List Nat) × (List Nat))) × (List Nat) × (List Nat) × Unit) (((List Nat) × (List ((List Nat) × (List Nat))) × (List ((List Nat) × (List Nat))) × (List (List Nat)) × (List ((List Nat) × (List Nat))) × (List ((List Nat) × (List Nat))) × (List ((List Nat) × (List Nat))) × (List ((List Nat) × (List Nat))) × Unit) × List Int) := (kSeq (kSet (kB mIx (kV (gS (gS gZ))) (kCallL m__law_take gZ pZ (kPair (kF (fun x => (x.length : Int)) (kV (gS (gS gZ)))) kU0))) (pS (pS (pS (pS (pS (pS (pS (pS (pS (pS (pS (pS pZ))))))))))))) (kSeq (kApp (gS (gS (gS (gS (gS gZ))))) (pS (pS (pS (pS (pS pZ))))) (kF (fun x => (x.1, x.2.1)) (kPair (kV (gS (gS (gS (gS (gS (gS (gS (gS (gS (gS (gS (gS gZ))))))))))))) (kPair (kCallL m__law_target gZ pZ (kPair (kV (gS (gS gZ))) kU0)) kU0)))) kNx))
noncomputable def l__law_rule_7 : ((List Int) × (List Nat) × (List (List Nat)) × (List ((List Nat) × (List (List Nat)))) × (List ((List Nat) × (List (List Nat)))) × (List ((List Nat) × (List Nat))) × Int × (List ((List Nat) × (List Nat))) × (List (List Nat)) × (List ((List Nat) × (List Nat))) × (List ((List Nat) × (List Nat))) × (List ((List Nat) × (List Nat))) × (List Nat) × (List Nat) × Unit) → Out ((List Int) × (List Nat) × (List (List Nat)) × (List ((List Nat) × (List (List Nat)))) × (List ((List Nat) × (List (List Nat)))) × (List ((List Nat) × (List Nat))) × Int × (List ((List Nat) × (List Nat))) × (List (List Nat)) × (List ((List Nat) × (List Nat))) × (List ((List Nat) × (List Nat))) × (List ((List Nat) × (List Nat))) × (List Nat) × (List Nat) × Unit) ((List Int) × (List Nat) × (List (List Nat)) × (List ((List Nat) × (List (List Nat)))) × (List ((List Nat) × (List (List Nat)))) × (List ((List Nat) × (List Nat))) × Int × (List ((List Nat) × (List Nat))) × (List (List Nat)) × (List ((List Nat) × (List Nat))) × (List ((List Nat) × (List Nat))) × (List ((List Nat) × (List Nat))) × (List Nat) × (List Nat) × Unit) (((List Nat) × (List ((List Nat) × (List Nat))) × (List ((List Nat) × (List Nat))) × (List (List Nat)) × (List ((List Nat) × (List Nat))) × (List ((List Nat) × (List Nat))) × (List ((List Nat) × (List Nat))) × (List ((List Nat) × (List Nat))) × Unit) × List Int) := (kSeq (kIf (kCmp mEq (kCallL m__law_take gZ pZ (kPair (kC (2 : Int)) kU0)) (kC (0 : Int))) (kApp (gS (gS (gS (gS (gS (gS (gS gZ))))))) (pS (pS (pS (pS (pS (pS (pS pZ))))))) (kF (fun x => (x.1, x.2.1)) (kPair (kV (gS (gS (gS (gS (gS (gS (gS (gS (gS (gS (gS (gS (gS gZ)))))))))))))) (kPair (kCallL m__law_target gZ pZ (kPair (kV (gS (gS gZ))) kU0)) kU0)))) kNx) kNx)
theorem n__law_rule : m__law_rule = kRun (S := (List Int) × (List Nat) × (List (List Nat)) × (List ((List Nat) × (List (List Nat)))) × (List ((List Nat) × (List (List Nat)))) × (List ((List Nat) × (List Nat))) × Int × (List ((List Nat) × (List Nat))) × (List (List Nat)) × (List ((List Nat) × (List Nat))) × (List ((List Nat) × (List Nat))) × (List ((List Nat) × (List Nat))) × (List Nat) × (List Nat) × Unit) (S' := Unit) (L := Unit) (kSeq (kSet (kNil (α := ((List Nat) × (List Nat)))) (pS (pS (pS (pS (pS pZ)))))) (kSeq (kFor (kRange1 (kB mIx (kCons (kC (1 : Int)) (kCons (kC (1 : Int)) (kCons (kC (2 : Int)) (kCons (kC (1 : Int)) (kCons (kC (2 : Int)) (kCons (kC (3 : Int)) kNil)))))) (kCallL m__law_take gZ pZ (kPair (kC (6 : Int)) kU0)))) (pS (pS (pS (pS (pS (pS pZ)))))) l__law_rule_2) (kSeq (kSet (kNil (α := ((List Nat) × (List Nat)))) (pS (pS (pS (pS (pS (pS (pS pZ)))))))) (kSeq (kIf (kCmp mEq (kCallL m__law_take gZ pZ (kPair (kC (4 : Int)) kU0)) (kC (0 : Int))) (kFor (kV (gS (gS gZ))) (pS (pS (pS (pS (pS (pS (pS (pS (pS (pS (pS (pS (pS pZ))))))))))))) l__law_rule_7) kNx) (kSeq (kSet (kNil (α := (List Nat))) (pS (pS (pS (pS (pS (pS (pS (pS pZ))))))))) (kSeq (kIf (kCmp mEq (kCallL m__law_take gZ pZ (kPair (kC (5 : Int)) kU0)) (kC (0 : Int))) (kSeq (kSet (kLc (kRange1 (kB mAdd (kC (1 : Int)) (kCallL m__law_take gZ pZ (kPair (kC (2 : Int)) kU0)))) (pS (pS (pS (pS (pS (pS pZ)))))) (kB mIx (kV (gS (gS gZ))) (kCallL m__law_take gZ pZ (kPair (kF (fun x => (x.length : Int)) (kV (gS (gS gZ)))) kU0)))) (pS (pS (pS (pS (pS (pS (pS (pS pZ))))))))) kNx) kNx) (kSeq (kSet (kCallL m__law_values gZ pZ (kPair (kV (gS (gS (gS gZ)))) (kPair (kC (3 : Int)) kU0))) (pS (pS (pS (pS (pS (pS (pS (pS (pS pZ)))))))))) (kSeq (kSet (kCallL m__law_values gZ pZ (kPair (kV (gS (gS (gS gZ)))) (kPair (kC (3 : Int)) kU0))) (pS (pS (pS (pS (pS (pS (pS (pS (pS (pS pZ))))))))))) (kSeq (kSet (kCallL m__law_values gZ pZ (kPair (kV (gS (gS (gS (gS gZ))))) (kPair (kC (2 : Int)) kU0))) (pS (pS (pS (pS (pS (pS (pS (pS (pS (pS (pS pZ)))))))))))) (kRetL gZ (kPair (kV (gS gZ)) (kPair (kV (gS (gS (gS (gS (gS gZ)))))) (kPair (kV (gS (gS (gS (gS (gS (gS (gS gZ)))))))) (kPair (kV (gS (gS (gS (gS (gS (gS (gS (gS gZ))))))))) (kPair (kV (gS (gS (gS (gS (gS (gS (gS (gS (gS gZ)))))))))) (kPair (kV (gS (gS (gS (gS (gS (gS (gS (gS (gS (gS gZ))))))))))) (kPair (kV (gS (gS (gS (gS (gS (gS (gS (gS (gS (gS (gS gZ)))))))))))) (kPair (kCallL m__law_values gZ pZ (kPair (kV (gS (gS (gS (gS gZ))))) (kPair (kC (2 : Int)) kU0))) kU0)))))))))))))))))) (iS (iS (iS (iS (iS (iZ ([], 0, [], [], [], [], [], [], [], ()))))))) (fun _ => .bad) := rfl
abbrev s__law_rule : Stmt := (topS 26)
theorem sc__law_rule : FnScope ["_law_draws_here", "_law_name", "_law_states", "_law_variables", "_law_channels", "_law_actors", "_law_k", "_law_everyone", "_law_born", "_law_conditions", "_law_effects", "_law_hears", "_law_first", "_law_state"] ["_law_draws_here", "_law_name", "_law_states", "_law_variables", "_law_channels"] (defScope s__law_rule) := ⟨rfl, rfl, rfl, by decide +kernel, rfl, by decide +kernel, by decide +kernel⟩
theorem ok__law_rule {f : Addr} {fd : FuncData} (D : DefAt K mg "_law_rule" s__law_rule ["_law_draws_here", "_law_name", "_law_states", "_law_variables", "_law_channels"] f fd) (U : Uses K mg) {f__law_take : Addr} {fd__law_take : FuncData} (D__law_take : DefAt K mg "_law_take" s__law_take ["_law_draws_here", "_law_limit"] f__law_take fd__law_take) (G__law_take : FnOk P w K mg base (L2.CX P w) 1 f__law_take fd__law_take ["_law_draws_here", "_law_limit"] (spL (XRm mg) tInt (acons (fz tInt) anil) (fz tInt) m__law_take)) {f__law_target : Addr} {fd__law_target : FuncData} (D__law_target : DefAt K mg "_law_target" s__law_target ["_law_draws_here", "_law_states"] f__law_target fd__law_target) (G__law_target : FnOk P w K mg base (L2.CX P w) 2 f__law_target fd__law_target ["_law_draws_here", "_law_states"] (spL (XRm mg) tInt (acons (fz (tLst tTxt)) anil) (fz tTxt) m__law_target)) {f__law_values : Addr} {fd__law_values : FuncData} (D__law_values : DefAt K mg "_law_values" s__law_values ["_law_draws_here", "_law_pairs", "_law_share"] f__law_values fd__law_values) (G__law_values : FnOk P w K mg base (L2.CX P w) 2 f__law_values fd__law_values ["_law_draws_here", "_law_pairs", "_law_share"] (spL (XRm mg) tInt (acons (fz (tLst (tP2 tTxt (tLst tTxt)))) (acons (fz tInt) anil)) (fz (tLst (tP2 tTxt tTxt))) m__law_values)) : FnOk P w K mg base (L2.CX P w) 3 f fd ["_law_draws_here", "_law_name", "_law_states", "_law_variables", "_law_channels"] (spL (XRm mg) tInt (acons (fz tTxt) (acons (fz (tLst tTxt)) (acons (fz (tLst (tP2 tTxt (tLst tTxt)))) (acons (fz (tLst (tP2 tTxt (tLst tTxt)))) anil)))) (fz (tH (hcons tTxt (hcons (tLst (tP2 tTxt tTxt)) (hcons (tLst (tP2 tTxt tTxt)) (hcons (tLst tTxt) (hcons (tLst (tP2 tTxt tTxt)) (hcons (tLst (tP2 tTxt tTxt)) (hcons (tLst (tP2 tTxt tTxt)) (hcons (tLst (tP2 tTxt tTxt)) hnil)))))))))) m__law_rule) :=
  fn_okK (G1 := fun _ => gnil) D.F sc__law_rule rfl rfl (fun ad => (st_cons (st_cons (st_cons (st_cons (st_cons (st_nil (any_cons (any_cons (any_cons (any_cons (any_cons (any_cons (any_cons (any_cons (any_cons any_nil)))))))))))))))) (fun ad => fall_bad) (fun ad cdv A outer s H E hr =>
    (ss_cons (sm_set sc__law_rule.nd rfl (.inl rfl) (At.s (At.s (At.s (At.s (At.s At.z))))) (em_lstN (am_hnil (T := (tP2 tTxt tTxt))) ln_nil (by decide)) (hf := .inl rfl)) (ss_cons (sm_forI (passes_of rfl) rfl (im_range1 (by rfl) U.range (em_ixL (fun _ _ => rfl) (em_freeze (em_lstN (am_hcons em_int (am_hcons em_int (am_hcons em_int (am_hcons em_int (am_hcons em_int (am_hcons em_int (am_hnil (T := tInt)))))))) (ln_cons (ln_cons (ln_cons (ln_cons (ln_cons (ln_cons ln_nil)))))) (by decide))) (em_callL (takes_of rfl rfl rfl rfl) G__law_take (hr.mono (by decide)) (by rfl) D__law_take.g D__law_take.F.kp D__law_take.b rfl (.inr (.inl rfl)) At.z (am_cons em_int am_nil)))) MvI.refl (tgt_name sc__law_rule.nd rfl (.inl rfl) (At.s (At.s (At.s (At.s (At.s (At.s At.z)))))) (.inl rfl)) (ss_cons (sm_set sc__law_rule.nd rfl (.inl rfl) (At.s (At.s (At.s (At.s (At.s (At.s (At.s (At.s (At.s (At.s (At.s (At.s At.z)))))))))))) (em_ixL (fun _ _ => rfl) (em_var rfl (.inr (.inl rfl)) (At.s (At.s At.z))) (em_callL (takes_of rfl rfl rfl rfl) G__law_take (hr.mono (by decide)) (by rfl) D__law_take.g D__law_take.F.kp D__law_take.b rfl (.inr (.inl rfl)) At.z (am_cons (em_len (by rfl) U.len (em_var rfl (.inr (.inl rfl)) (At.s (At.s At.z)))) am_nil))) (hf := .inl rfl)) (ss_cons (sm_append rfl (.inl rfl) (At.s (At.s (At.s (At.s (At.s At.z))))) (em_tup2 (am_cons (em_var rfl (.inl rfl) (At.s (At.s (At.s (At.s (At.s (At.s (At.s (At.s (At.s (At.s (At.s (At.s At.z))))))))))))) (am_cons (em_callL (takes_of rfl rfl rfl rfl) G__law_target (hr.mono (by decide)) (by rfl) D__law_target.g D__law_target.F.kp D__law_target.b rfl (.inr (.inl rfl)) At.z (am_cons (em_var rfl (.inr (.inl rfl)) (At.s (At.s At.z))) am_nil)) am_nil))) (fun _ _ h h2 => pe_bm PySem.F.plainAttrs_list PySem.F.slot_list_append PySem.F.type_list_append mt_append h (pa_cons h2 pa_nil))) (ss_nilI (MvI.cons SMvI.refl (MvI.cons SMvI.refl (MvI.cons SMvI.refl (MvI.cons SMvI.refl (MvI.cons SMvI.refl (MvI.cons SMvI.refl (MvI.cons SMvI.hide (MvI.cons SMvI.refl (MvI.cons SMvI.refl (MvI.cons SMvI.refl (MvI.cons SMvI.refl (MvI.cons SMvI.refl (MvI.cons SMvI.hide MvI.refl))))))))))))))))) (ss_cons (sm_set sc__law_rule.nd rfl (.inl rfl) (At.s (At.s (At.s (At.s (At.s (At.s (At.s At.z))))))) (em_lstN (am_hnil (T := (tP2 tTxt tTxt))) ln_nil (by decide)) (hf := .inl rfl)) (ss_cons (sm_if (tm_c (cm_eqS scInt) (nomark _) (em_callL (takes_of rfl rfl rfl rfl) G__law_take (hr.mono (by decide)) (by rfl) D__law_take.g D__law_take.F.kp D__law_take.b rfl (.inr (.inl rfl)) At.z (am_cons em_int am_nil)) em_int) (ss_one (sm_forI (passes_of rfl) rfl (im_list (em_var rfl (.inr (.inl rfl)) (At.s (At.s At.z)))) MvI.refl (tgt_name sc__law_rule.nd rfl (.inl rfl) (At.s (At.s (At.s (At.s (At.s (At.s (At.s (At.s (At.s (At.s (At.s (At.s (At.s At.z))))))))))))) (.inl rfl)) (ss_cons (sm_if (tm_c (cm_eqS scInt) (nomark _) (em_callL (takes_of rfl rfl rfl rfl) G__law_take (hr.mono (by decide)) (by rfl) D__law_take.g D__law_take.F.kp D__law_take.b rfl (.inr (.inl rfl)) At.z (am_cons em_int am_nil)) em_int) (ss_one (sm_append rfl (.inl rfl) (At.s (At.s (At.s (At.s (At.s (At.s (At.s At.z))))))) (em_tup2 (am_cons (em_var rfl (.inl rfl) (At.s (At.s (At.s (At.s (At.s (At.s (At.s (At.s (At.s (At.s (At.s (At.s (At.s At.z)))))))))))))) (am_cons (em_callL (takes_of rfl rfl rfl rfl) G__law_target (hr.mono (by decide)) (by rfl) D__law_target.g D__law_target.F.kp D__law_target.b rfl (.inr (.inl rfl)) At.z (am_cons (em_var rfl (.inr (.inl rfl)) (At.s (At.s At.z))) am_nil)) am_nil))) (fun _ _ h h2 => pe_bm PySem.F.plainAttrs_list PySem.F.slot_list_append PySem.F.type_list_append mt_append h (pa_cons h2 pa_nil)))) (ss_nilI MvI.refl)) (ss_nilI (MvI.cons SMvI.refl (MvI.cons SMvI.refl (MvI.cons SMvI.refl (MvI.cons SMvI.refl (MvI.cons SMvI.refl (MvI.cons SMvI.refl (MvI.cons SMvI.refl (MvI.cons SMvI.refl (MvI.cons SMvI.refl (MvI.cons SMvI.refl (MvI.cons SMvI.refl (MvI.cons SMvI.refl (MvI.cons SMvI.refl (MvI.cons SMvI.hide MvI.refl)))))))))))))))))) (ss_nilI MvI.refl)) (ss_cons (sm_set sc__law_rule.nd rfl (.inl rfl) (At.s (At.s (At.s (At.s (At.s (At.s (At.s (At.s At.z)))))))) (em_freeze (em_lstN (am_hnil (T := tTxt)) ln_nil (by decide))) (hf := .inl rfl)) (ss_cons (sm_if (tm_c (cm_eqS scInt) (nomark _) (em_callL (takes_of rfl rfl rfl rfl) G__law_take (hr.mono (by decide)) (by rfl) D__law_take.g D__law_take.F.kp D__law_take.b rfl (.inr (.inl rfl)) At.z (am_cons em_int am_nil)) em_int) (ss_cons (sm_setLcK (own := [("_law_k", 6)]) rfl sc__law_rule.nd rfl rfl (At.s (At.s (At.s (At.s (At.s (At.s (At.s (At.s At.z)))))))) (sw_true rfl rfl rfl (by decide +kernel)) (im_range1 (by rfl) U.range (em_add em_int (em_callL (takes_of rfl rfl rfl rfl) G__law_take (hr.mono (by decide)) (by rfl) D__law_take.g D__law_take.F.kp D__law_take.b rfl (.inr (.inl rfl)) At.z (am_cons em_int am_nil)))) (blkOk_by (N := ["_law_draws_here", "_law_name", "_law_states", "_law_variables", "_law_channels", "_law_actors", "_law_k", "_law_everyone", "_law_born", "_law_conditions", "_law_effects", "_law_hears", "_law_first", "_law_state"]) (sc := (defScope s__law_rule)) (by decide +kernel)) (ko_keep (by decide) (ko_keep (by decide) (ko_keep (by decide) (ko_keep (by decide) (ko_keep (by decide) (ko_keep (by decide) (ko_any (ko_keep (by decide) (ko_keep (by decide) (ko_any (ko_any (ko_any (ko_any (ko_any ko_nil)))))))))))))) (fun _ _ _ _ _ => (tgt_name sc__law_rule.nd rfl (.inl (by rfl)) (At.s (At.s (At.s (At.s (At.s (At.s At.z)))))) (.inr (by rfl)))) (fun _ _ _ _ _ => (em_ixL (fun _ _ => rfl) (em_var rfl (by first | exact .inr (.inr rfl) | exact .inr (.inl rfl)) (At.s (At.s At.z))) (em_callL takes0 G__law_take (hr.mono (by decide)) (by rfl) D__law_take.g D__law_take.F.kp D__law_take.b rfl (by first | exact .inr (.inr rfl) | exact .inr (.inl rfl)) At.z (am_cons (em_len (by rfl) U.len (em_var rfl (by first | exact .inr (.inr rfl) | exact .inr (.inl rfl)) (At.s (At.s At.z)))) am_nil)))) (bi_cons (bi_cons (bi_cons (bi_cons (bi_cons (bi_cons (bi_any bi_refl)))))))) (ss_nilI (MvI.cons SMvI.refl (MvI.cons SMvI.refl (MvI.cons SMvI.refl (MvI.cons SMvI.refl (MvI.cons SMvI.refl (MvI.cons SMvI.refl (MvI.cons SMvI.refl (MvI.cons SMvI.refl (MvI.cons SMvI.freeze MvI.refl))))))))))) (ss_nilI MvI.refl)) (ss_cons (sm_set sc__law_rule.nd rfl (.inl rfl) (At.s (At.s (At.s (At.s (At.s (At.s (At.s (At.s (At.s At.z))))))))) (em_callL (takes_of rfl rfl rfl rfl) G__law_values (hr.mono (by decide)) (by rfl) D__law_values.g D__law_values.F.kp D__law_values.b rfl (.inr (.inl rfl)) At.z (am_cons (em_var rfl (.inl rfl) (At.s (At.s (At.s At.z)))) (am_cons em_int am_nil))) (hf := .inl rfl)) (ss_cons (sm_set sc__law_rule.nd rfl (.inl rfl) (At.s (At.s (At.s (At.s (At.s (At.s (At.s (At.s (At.s (At.s At.z)))))))))) (em_callL (takes_of rfl rfl rfl rfl) G__law_values (hr.mono (by decide)) (by rfl) D__law_values.g D__law_values.F.kp D__law_values.b rfl (.inr (.inl rfl)) At.z (am_cons (em_var rfl (.inl rfl) (At.s (At.s (At.s At.z)))) (am_cons em_int am_nil))) (hf := .inl rfl)) (ss_cons (sm_set sc__law_rule.nd rfl (.inl rfl) (At.s (At.s (At.s (At.s (At.s (At.s (At.s (At.s (At.s (At.s (At.s At.z))))))))))) (em_callL (takes_of rfl rfl rfl rfl) G__law_values (hr.mono (by decide)) (by rfl) D__law_values.g D__law_values.F.kp D__law_values.b rfl (.inr (.inl rfl)) At.z (am_cons (em_var rfl (.inl rfl) (At.s (At.s (At.s (At.s At.z))))) (am_cons em_int am_nil))) (hf := .inl rfl)) (ss_mvI (MvI.cons SMvI.refl (MvI.cons SMvI.refl (MvI.cons SMvI.refl (MvI.cons SMvI.refl (MvI.cons SMvI.refl (MvI.cons SMvI.freeze MvI.refl)))))) (ss_mvI (MvI.cons SMvI.refl (MvI.cons SMvI.refl (MvI.cons SMvI.refl (MvI.cons SMvI.refl (MvI.cons SMvI.refl (MvI.cons SMvI.refl (MvI.cons SMvI.refl (MvI.cons SMvI.freeze MvI.refl)))))))) (ss_one (sm_retL At.z (em_tupH (am_Hcons (em_var rfl (.inl rfl) (At.s At.z)) (am_Hcons (em_var rfl (.inl rfl) (At.s (At.s (At.s (At.s (At.s At.z)))))) (am_Hcons (em_var rfl (.inl rfl) (At.s (At.s (At.s (At.s (At.s (At.s (At.s At.z)))))))) (am_Hcons (em_var rfl (.inl rfl) (At.s (At.s (At.s (At.s (At.s (At.s (At.s (At.s At.z))))))))) (am_Hcons (em_var rfl (.inl rfl) (At.s (At.s (At.s (At.s (At.s (At.s (At.s (At.s (At.s At.z)))))))))) (am_Hcons (em_var rfl (.inl rfl) (At.s (At.s (At.s (At.s (At.s (At.s (At.s (At.s (At.s (At.s At.z))))))))))) (am_Hcons (em_var rfl (.inl rfl) (At.s (At.s (At.s (At.s (At.s (At.s (At.s (At.s (At.s (At.s (At.s At.z)))))))))))) (am_Hcons (em_callL (takes_of rfl rfl rfl rfl) G__law_values (hr.mono (by decide)) (by rfl) D__law_values.g D__law_values.F.kp D__law_values.b rfl (.inr (.inl rfl)) At.z (am_cons (em_var rfl (.inl rfl) (At.s (At.s (At.s (At.s At.z))))) (am_cons em_int am_nil))) am_Hnil)))))))))))))))))))))))
/-! ### _law_pattern -/
noncomputable def m__law_pattern : (List Int) × (List (List Nat)) × (List ((List Nat) × (List (List Nat)))) × Unit → Res (((List ((List Nat) × Int)) × (List ((List Nat) × (List Nat)))) × List Int) := kRun (S := (List Int) × (List (List Nat)) × (List ((List Nat) × (List (List Nat)))) × (List ((List Nat) × Int)) × (List Nat) × (List ((List Nat) × (List Nat))) × Unit) (S' := Unit) (L := Unit) (kSeq (kSet (kNil (α := ((List Nat) × Int))) (pS (pS (pS pZ)))) (kSeq (kFor (kV (gS gZ)) (pS (pS (pS (pS pZ)))) (kSeq (kIf (kCmp mEq (kCallL m__law_take gZ pZ (kPair (kC (3 : Int)) kU0)) (kC (0 : Int))) (kApp (gS (gS (gS gZ))) (pS (pS (pS pZ))) (kF (fun x => (x.1, x.2.1)) (kPair (kV (gS (gS (gS (gS gZ))))) (kPair (kB mAdd (kC (1 : Int)) (kCallL m__law_take gZ pZ (kPair (kC (2 : Int)) kU0))) kU0)))) kNx) kNx)) (kSeq (kSet (kCallL m__law_values gZ pZ (kPair (kV (gS (gS gZ))) (kPair (kC (2 : Int)) kU0))) (pS (pS (pS (pS (pS pZ)))))) (kSeq (kIf (kCmp mEq (kB mAdd (kLenO (gS (gS (gS gZ)))) (kF (fun x => (x.length : Int)) (kV (gS (gS (gS (gS (gS gZ)))))))) (kC (0 : Int))) (kSet (kCons (kF (fun x => (x.1, x.2.1)) (kPair (kB mIx (kV (gS gZ)) (kB mSub (kF (fun x => (x.length : Int)) (kV (gS gZ))) (kC (1 : Int)))) (kPair (kB mAdd (kC (1 : Int)) (kCallL m__law_take gZ pZ (kPair (kC (3 : Int)) kU0))) kU0))) kNil) (pS (pS (pS pZ)))) kNx) (kRetL gZ (kF (fun x => (x.1, x.2.1)) (kPair (kV (gS (gS (gS gZ)))) (kPair (kV (gS (gS (gS (gS (gS gZ)))))) kU0)))))))) (iS (iS (iS (iZ ([], [], [], ()))))) (fun _ => .bad)
noncomputable def l__law_pattern_2 : ((List Int) × (List (List Nat)) × (List ((List Nat) × (List (List Nat)))) × (List ((List Nat) × Int)) × (List Nat) × (List ((List Nat) × (List Nat))) × Unit) → Out ((List Int) × (List (List Nat)) × (List ((List Nat) × (List (List Nat)))) × (List ((List Nat) × Int)) × (List Nat) × (List ((List Nat) × (List Nat))) × Unit) ((List Int) × (List (List Nat)) × (List ((List Nat) × (List (List Nat)))) × (List ((List Nat) × Int)) × (List Nat) × (List ((List Nat) × (List Nat))) × Unit) (((List ((List Nat) × Int)) × (List ((List Nat) × (List Nat)))) × List Int) := (kSeq (kIf (kCmp mEq (kCallL m__law_take gZ pZ (kPair (kC (3 : Int)) kU0)) (kC (0 : Int))) (kApp (gS (gS (gS gZ))) (pS (pS (pS pZ))) (kF (fun x => (x.1, x.2.1)) (kPair (kV (gS (gS (gS (gS gZ))))) (kPair (kB mAdd (kC (1 : Int)) (kCallL m__law_take gZ pZ (kPair (kC (2 : Int)) kU0))) kU0)))) kNx) kNx)
theorem n__law_pattern : m__law_pattern = kRun (S := (List Int) × (List (List Nat)) × (List ((List Nat) × (List (List Nat)))) × (List ((List Nat) × Int)) × (List Nat) × (List ((List Nat) × (List Nat))) × Unit) (S' := Unit) (L := Unit) (kSeq (kSet (kNil (α := ((List Nat) × Int))) (pS (pS (pS pZ)))) (kSeq (kFor (kV (gS gZ)) (pS (pS (pS (pS pZ)))) l__law_pattern_2) (kSeq (kSet (kCallL m__law_values gZ pZ (kPair (kV (gS (gS gZ))) (kPair (kC (2 : Int)) kU0))) (pS (pS (pS (pS (pS pZ)))))) (kSeq (kIf (kCmp mEq (kB mAdd (kLenO (gS (gS (gS gZ)))) (kF (fun x => (x.length : Int)) (kV (gS (gS (gS (gS (gS gZ)))))))) (kC (0 : Int))) (kSet (kCons (kF (fun x => (x.1, x.2.1)) (kPair (kB mIx (kV (gS gZ)) (kB mSub (kF (fun x => (x.length : Int)) (kV (gS gZ))) (kC (1 : Int)))) (kPair (kB mAdd (kC (1 : Int)) (kCallL m__law_take gZ pZ (kPair (kC (3 : Int)) kU0))) kU0))) kNil) (pS (pS (pS pZ)))) kNx) (kRetL gZ (kF (fun x => (x.1, x.2.1)) (kPair (kV (gS (gS (gS gZ)))) (kPair (kV (gS (gS (gS (gS (gS gZ)))))) kU0)))))))) (iS (iS (iS (iZ ([], [], [], ()))))) (fun _ => .bad) := rfl
abbrev s__law_pattern : Stmt := (topS 27)
theorem sc__law_pattern : FnScope ["_law_draws_here", "_law_states", "_law_variables", "_law_counts", "_law_state", "_law_values_here"] ["_law_draws_here", "_law_states", "_law_variables"] (defScope s__law_pattern) := ⟨rfl, rfl, rfl, by decide +kernel, rfl, by decide +kernel, by decide +kernel⟩
theorem ok__law_pattern {f : Addr} {fd : FuncData} (D : DefAt K mg "_law_pattern" s__law_pattern ["_law_draws_here", "_law_states", "_law_variables"] f fd) (U : Uses K mg) {f__law_take : Addr} {fd__law_take : FuncData} (D__law_take : DefAt K mg "_law_take" s__law_take ["_law_draws_here", "_law_limit"] f__law_take fd__law_take) (G__law_take : FnOk P w K mg base (L2.CX P w) 1 f__law_take fd__law_take ["_law_draws_here", "_law_limit"] (spL (XRm mg) tInt (acons (fz tInt) anil) (fz tInt) m__law_take)) {f__law_values : Addr} {fd__law_values : FuncData} (D__law_values : DefAt K mg "_law_values" s__law_values ["_law_draws_here", "_law_pairs", "_law_share"] f__law_values fd__law_values) (G__law_values : FnOk P w K mg base (L2.CX P w) 2 f__law_values fd__law_values ["_law_draws_here", "_law_pairs", "_law_share"] (spL (XRm mg) tInt (acons (fz (tLst (tP2 tTxt (tLst tTxt)))) (acons (fz tInt) anil)) (fz (tLst (tP2 tTxt tTxt))) m__law_values)) : FnOk P w K mg base (L2.CX P w) 3 f fd ["_law_draws_here", "_law_states", "_law_variables"] (spL (XRm mg) tInt (acons (fz (tLst tTxt)) (acons (fz (tLst (tP2 tTxt (tLst tTxt)))) anil)) (fz (tP2 (tLst (tP2 tTxt tInt)) (tLst (tP2 tTxt tTxt)))) m__law_pattern) :=
  fn_okK (G1 := fun _ => gnil) D.F sc__law_pattern rfl rfl (fun ad => (st_cons (st_cons (st_cons (st_nil (any_cons (any_cons (any_cons any_nil)))))))) (fun ad => fall_bad) (fun ad cdv A outer s H E hr =>
    (ss_cons (sm_set sc__law_pattern.nd rfl (.inl rfl) (At.s (At.s (At.s At.z))) (em_lstN (am_hnil (T := (tP2 tTxt tInt))) ln_nil (by decide)) (hf := .inl rfl)) (ss_cons (sm_forI (passes_of rfl) rfl (im_list (em_var rfl (.inl rfl) (At.s At.z))) MvI.refl (tgt_name sc__law_pattern.nd rfl (.inl rfl) (At.s (At.s (At.s (At.s At.z)))) (.inl rfl)) (ss_cons (sm_if (tm_c (cm_eqS scInt) (nomark _) (em_callL (takes_of rfl rfl rfl rfl) G__law_take (hr.mono (by decide)) (by rfl) D__law_take.g D__law_take.F.kp D__law_take.b rfl (.inl rfl) At.z (am_cons em_int am_nil)) em_int) (ss_one (sm_append rfl (.inl rfl) (At.s (At.s (At.s At.z))) (em_tup2 (am_cons (em_var rfl (.inl rfl) (At.s (At.s (At.s (At.s At.z))))) (am_cons (em_add em_int (em_callL (takes_of rfl rfl rfl rfl) G__law_take (hr.mono (by decide)) (by rfl) D__law_take.g D__law_take.F.kp D__law_take.b rfl (.inl rfl) At.z (am_cons em_int am_nil))) am_nil))) (fun _ _ h h2 => pe_bm PySem.F.plainAttrs_list PySem.F.slot_list_append PySem.F.type_list_append mt_append h (pa_cons h2 pa_nil)))) (ss_nilI MvI.refl)) (ss_nilI (MvI.cons SMvI.refl (MvI.cons SMvI.refl (MvI.cons SMvI.refl (MvI.cons SMvI.refl (MvI.cons SMvI.hide MvI.refl)))))))) (ss_cons (sm_set sc__law_pattern.nd rfl (.inl rfl) (At.s (At.s (At.s (At.s (At.s At.z))))) (em_callL (takes_of rfl rfl rfl rfl) G__law_values (hr.mono (by decide)) (by rfl) D__law_values.g D__law_values.F.kp D__law_values.b rfl (.inl rfl) At.z (am_cons (em_var rfl (.inl rfl) (At.s (At.s At.z))) (am_cons em_int am_nil))) (hf := .inl rfl)) (ss_cons (sm_if (tm_c (cm_eqS scInt) (nomark _) (em_add (em_lenO (by rfl) U.len rfl (.inl rfl) (At.s (At.s (At.s At.z)))) (em_len (by rfl) U.len (em_var rfl (.inl rfl) (At.s (At.s (At.s (At.s (At.s At.z)))))))) em_int) (ss_one (sm_set sc__law_pattern.nd rfl (.inl rfl) (At.s (At.s (At.s At.z))) (em_lstN (am_hcons (em_tup2 (am_cons (em_ixL (fun _ _ => rfl) (em_var rfl (.inl rfl) (At.s At.z)) (em_subt (em_len (by rfl) U.len (em_var rfl (.inl rfl) (At.s At.z))) em_int)) (am_cons (em_add em_int (em_callL (takes_of rfl rfl rfl rfl) G__law_take (hr.mono (by decide)) (by rfl) D__law_take.g D__law_take.F.kp D__law_take.b rfl (.inl rfl) At.z (am_cons em_int am_nil))) am_nil))) (am_hnil (T := (tP2 tTxt tInt)))) (ln_cons ln_nil) (by decide)) (hf := .inl rfl))) (ss_nilI MvI.refl)) (ss_mvI (MvI.cons SMvI.refl (MvI.cons SMvI.refl (MvI.cons SMvI.refl (MvI.cons SMvI.freeze MvI.refl)))) (ss_one (sm_retL At.z (em_tup2 (am_cons (em_var rfl (.inl rfl) (At.s (At.s (At.s At.z)))) (am_cons (em_var rfl (.inl rfl) (At.s (At.s (At.s (At.s (At.s At.z)))))) am_nil)))))))))))
/-! ### _law_system -/
noncomputable def m__law_system : (List Int) × Int × Bool × Unit → Res (((List (List Nat)) × (List Nat) × (List ((List Nat) × (List (List Nat)))) × (List ((List Nat) × (List (List Nat)))) × (List ((List Nat) × (List ((List Nat) × (List Nat))) × (List ((List Nat) × (List Nat))) × (List (List Nat)) × (List ((List Nat) × (List Nat))) × (List ((List Nat) × (List Nat))) × (List ((List Nat) × (List Nat))) × (List ((List Nat) × (List Nat))) × Unit)) × (List ((List ((List Nat) × Int)) × (List ((List Nat) × (List Nat))))) × Unit) × List Int) := kRun (S := (List Int) × Int × Bool × (List (List Nat)) × (List ((List Nat) × (List (List Nat)))) × (List ((List Nat) × (List (List Nat)))) × (List ((List Nat) × (List ((List Nat) × (List Nat))) × (List ((List Nat) × (List Nat))) × (List (List Nat)) × (List ((List Nat) × (List Nat))) × (List ((List Nat) × (List Nat))) × (List ((List Nat) × (List Nat))) × (List ((List Nat) × (List Nat))) × Unit)) × Int × (List ((List ((List Nat) × Int)) × (List ((List Nat) × (List Nat))))) × Unit) (S' := Unit) (L := Unit) (kSeq (kSet (kCut (kCons (kC ([105, 100, 108, 101] : List Nat)) (kCons (kC ([119, 97, 110, 116] : List Nat)) (kCons (kC ([99, 114, 105, 116] : List Nat)) (kCons (kC ([100, 111, 110, 101] : List Nat)) kNil)))) (kC none) (kF some (kB mAdd (kC (2 : Int)) (kCallL m__law_take gZ pZ (kPair (kC (3 : Int)) kU0))))) (pS (pS (pS pZ)))) (kSeq (kIf (kCmp mEq (kCallL m__law_take gZ pZ (kPair (kC (3 : Int)) kU0)) (kC (0 : Int))) (kRev (gS (gS (gS gZ))) (pS (pS (pS pZ)))) kNx) (kSeq (kSet (kCut (kCons (kF (fun x => (x.1, x.2.1)) (kPair (kC ([108, 111, 99, 107] : List Nat)) (kPair (kCut (kCons (kC ([102, 114, 101, 101] : List Nat)) (kCons (kC ([104, 101, 108, 100] : List Nat)) (kCons (kC ([100, 101, 97, 100] : List Nat)) kNil))) (kC none) (kF some (kB mAdd (kC (2 : Int)) (kCallL m__law_take gZ pZ (kPair (kC (2 : Int)) kU0))))) kU0))) kNil) (kC none) (kF some (kB mIx (kCons (kC (0 : Int)) (kCons (kC (1 : Int)) (kCons (kC (1 : Int)) kNil))) (kCallL m__law_take gZ pZ (kPair (kC (3 : Int)) kU0))))) (pS (pS (pS (pS pZ))))) (kSeq (kSet (kNil (α := ((List Nat) × (List (List Nat))))) (pS (pS (pS (pS (pS pZ)))))) (kSeq (kIf (kAnd (kV (gS (gS gZ))) (kCmp mEq (kCallL m__law_take gZ pZ (kPair (kC (2 : Int)) kU0)) (kC (0 : Int)))) (kSet (kCons (kF (fun x => (x.1, x.2.1)) (kPair (kC ([98, 111, 120] : List Nat)) (kPair (kCut (kCons (kC ([112, 105, 110, 103] : List Nat)) (kCons (kC ([112, 111, 110, 103] : List Nat)) kNil)) (kC none) (kF some (kB mAdd (kC (1 : Int)) (kCallL m__law_take gZ pZ (kPair (kC (2 : Int)) kU0))))) kU0))) kNil) (pS (pS (pS (pS (pS pZ)))))) kNx) (kSeq (kSet (kNil (α := ((List Nat) × (List ((List Nat) × (List Nat))) × (List ((List Nat) × (List Nat))) × (List (List Nat)) × (List ((List Nat) × (List Nat))) × (List ((List Nat) × (List Nat))) × (List ((List Nat) × (List Nat))) × (List ((List Nat) × (List Nat))) × Unit))) (pS (pS (pS (pS (pS (pS pZ))))))) (kSeq (kFor (kRange1 (kB mAdd (kC (1 : Int)) (kCallL m__law_take gZ pZ (kPair (kV (gS gZ)) kU0)))) (pS (pS (pS (pS (pS (pS (pS pZ))))))) (kSeq (kApp (gS (gS (gS (gS (gS (gS gZ)))))) (pS (pS (pS (pS (pS (pS pZ)))))) (kCallL m__law_rule gZ pZ (kPair (kB mCat (kC ([114] : List Nat)) (kU mStr (kV (gS (gS (gS (gS (gS (gS (gS gZ)))))))))) (kPair (kV (gS (gS (gS gZ)))) (kPair (kV (gS (gS (gS (gS gZ))))) (kPair (kV (gS (gS (gS (gS (gS gZ)))))) kU0)))))) kNx)) (kSeq (kSet (kLc (kRange1 (kB mIx (kCons (kC (1 : Int)) (kCons (kC (1 : Int)) (kCons (kC (2 : Int)) kNil))) (kCallL m__law_take gZ pZ (kPair (kC (3 : Int)) kU0)))) (pS (pS (pS (pS (pS (pS (pS pZ))))))) (kCallL m__law_pattern gZ pZ (kPair (kV (gS (gS (gS gZ)))) (kPair (kV (gS (gS (gS (gS gZ))))) kU0)))) (pS (pS (pS (pS (pS (pS (pS (pS pZ))))))))) (kRetL gZ (kPair (kV (gS (gS (gS gZ)))) (kPair (kB mIx (kV (gS (gS (gS gZ)))) (kCallL m__law_take gZ pZ (kPair (kF (fun x => (x.length : Int)) (kV (gS (gS (gS gZ))))) kU0))) (kPair (kV (gS (gS (gS (gS gZ))))) (kPair (kV (gS (gS (gS (gS (gS gZ)))))) (kPair (kV (gS (gS (gS (gS (gS (gS gZ))))))) (kPair (kV (gS (gS (gS (gS (gS (gS (gS (gS gZ))))))))) kU0))))))))))))))) (iS (iS (iS (iZ ([], [], [], [], 0, [], ()))))) (fun _ => .bad)
noncomputable def l__law_system_9 : ((List Int) × Int × Bool × (List (List Nat)) × (List ((List Nat) × (List (List Nat)))) × (List ((List Nat) × (List (List Nat)))) × (List ((List Nat) × (List ((List Nat) × (List Nat))) × (List ((List Nat) × (List Nat))) × (List (List Nat)) × (List ((List Nat) × (List Nat))) × (List ((List Nat) × (List Nat))) × (List ((List Nat) × (List Nat))) × (List ((List Nat) × (List Nat))) × Unit)) × Int × (List ((List ((List Nat) × Int)) × (List ((List Nat) × (List Nat))))) × Unit) → Out ((List Int) × Int × Bool × (List (List Nat)) × (List ((List Nat) × (List (List Nat)))) × (List ((List Nat) × (List (List Nat)))) × (List ((List Nat) × (List ((List Nat) × (List Nat))) × (List ((List Nat) × (List Nat))) × (List (List Nat)) × (List ((List Nat) × (List Nat))) × (List ((List Nat) × (List Nat))) × (List ((List Nat) × (List Nat))) × (List ((List Nat) × (List Nat))) × Unit)) × Int × (List ((List ((List Nat) × Int)) × (List ((List Nat) × (List Nat))))) × Unit) ((List Int) × Int × Bool × (List (List Nat)) × (List ((List Nat) × (List (List Nat)))) × (List ((List Nat) × (List (List Nat)))) × (List ((List Nat) × (List ((List Nat) × (List Nat))) × (List ((List Nat) × (List Nat))) × (List (List Nat)) × (List ((List Nat) × (List Nat))) × (List ((List Nat) × (List Nat))) × (List ((List Nat) × (List Nat))) × (List ((List Nat) × (List Nat))) × Unit)) × Int × (List ((List ((List Nat) × Int)) × (List ((List Nat) × (List Nat))))) × Unit) (((List (List Nat)) × (List Nat) × (List ((List Nat) × (List (List Nat)))) × (List ((List Nat) × (List (List Nat)))) × (List ((List Nat) × (List ((List Nat) × (List Nat))) × (List ((List Nat) × (List Nat))) × (List (List Nat)) × (List ((List Nat) × (List Nat))) × (List ((List Nat) × (List Nat))) × (List ((List Nat) × (List Nat))) × (List ((List Nat) × (List Nat))) × Unit)) × (List ((List ((List Nat) × Int)) × (List ((List Nat) × (List Nat))))) × Unit) × List Int) := (kSeq (kApp (gS (gS (gS (gS (gS (gS gZ)))))) (pS (pS (pS (pS (pS (pS pZ)))))) (kCallL m__law_rule gZ pZ (kPair (kB mCat (kC ([114] : List Nat)) (kU mStr (kV (gS (gS (gS (gS (gS (gS (gS gZ)))))))))) (kPair (kV (gS (gS (gS gZ)))) (kPair (kV (gS (gS (gS (gS gZ))))) (kPair (kV (gS (gS (gS (gS (gS gZ)))))) kU0)))))) kNx)
theorem n__law_system : m__law_system = kRun (S := (List Int) × Int × Bool × (List (List Nat)) × (List ((List Nat) × (List (List Nat)))) × (List ((List Nat) × (List (List Nat)))) × (List ((List Nat) × (List ((List Nat) × (List Nat))) × (List ((List Nat) × (List Nat))) × (List (List Nat)) × (List ((List Nat) × (List Nat))) × (List ((List Nat) × (List Nat))) × (List ((List Nat) × (List Nat))) × (List ((List Nat) × (List Nat))) × Unit)) × Int × (List ((List ((List Nat) × Int)) × (List ((List Nat) × (List Nat))))) × Unit) (S' := Unit) (L := Unit) (kSeq (kSet (kCut (kCons (kC ([105, 100, 108, 101] : List Nat)) (kCons (kC ([119, 97, 110, 116] : List Nat)) (kCons (kC ([99, 114, 105, 116] : List Nat)) (kCons (kC ([100, 111, 110, 101] : List Nat)) kNil)))) (kC none) (kF some (kB mAdd (kC (2 : Int)) (kCallL m__law_take gZ pZ (kPair (kC (3 : Int)) kU0))))) (pS (pS (pS pZ)))) (kSeq (kIf (kCmp mEq (kCallL m__law_take gZ pZ (kPair (kC (3 : Int)) kU0)) (kC (0 : Int))) (kRev (gS (gS (gS gZ))) (pS (pS (pS pZ)))) kNx) (kSeq (kSet (kCut (kCons (kF (fun x => (x.1, x.2.1)) (kPair (kC ([108, 111, 99, 107] : List Nat)) (kPair (kCut (kCons (kC ([102, 114, 101, 101] : List Nat)) (kCons (kC ([104, 101, 108, 100] : List Nat)) (kCons (kC ([100, 101, 97, 100] : List Nat)) kNil))) (kC none) (kF some (kB mAdd (kC (2 : Int)) (kCallL m__law_take gZ pZ (kPair (kC (2 : Int)) kU0))))) kU0))) kNil) (kC none) (kF some (kB mIx (kCons (kC (0 : Int)) (kCons (kC (1 : Int)) (kCons (kC (1 : Int)) kNil))) (kCallL m__law_take gZ pZ (kPair (kC (3 : Int)) kU0))))) (pS (pS (pS (pS pZ))))) (kSeq (kSet (kNil (α := ((List Nat) × (List (List Nat))))) (pS (pS (pS (pS (pS pZ)))))) (kSeq (kIf (kAnd (kV (gS (gS gZ))) (kCmp mEq (kCallL m__law_take gZ pZ (kPair (kC (2 : Int)) kU0)) (kC (0 : Int)))) (kSet (kCons (kF (fun x => (x.1, x.2.1)) (kPair (kC ([98, 111, 120] : List Nat)) (kPair (kCut (kCons (kC ([112, 105, 110, 103] : List Nat)) (kCons (kC ([112, 111, 110, 103] : List Nat)) kNil)) (kC none) (kF some (kB mAdd (kC (1 : Int)) (kCallL m__law_take gZ pZ (kPair (kC (2 : Int)) kU0))))) kU0))) kNil) (pS (pS (pS (pS (pS pZ)))))) kNx) (kSeq (kSet (kNil (α := ((List Nat) × (List ((List Nat) × (List Nat))) × (List ((List Nat) × (List Nat))) × (List (List Nat)) × (List ((List Nat) × (List Nat))) × (List ((List Nat) × (List Nat))) × (List ((List Nat) × (List Nat))) × (List ((List Nat) × (List Nat))) × Unit))) (pS (pS (pS (pS (pS (pS pZ))))))) (kSeq (kFor (kRange1 (kB mAdd (kC (1 : Int)) (kCallL m__law_take gZ pZ (kPair (kV (gS gZ)) kU0)))) (pS (pS (pS (pS (pS (pS (pS pZ))))))) l__law_system_9) (kSeq (kSet (kLc (kRange1 (kB mIx (kCons (kC (1 : Int)) (kCons (kC (1 : Int)) (kCons (kC (2 : Int)) kNil))) (kCallL m__law_take gZ pZ (kPair (kC (3 : Int)) kU0)))) (pS (pS (pS (pS (pS (pS (pS pZ))))))) (kCallL m__law_pattern gZ pZ (kPair (kV (gS (gS (gS gZ)))) (kPair (kV (gS (gS (gS (gS gZ))))) kU0)))) (pS (pS (pS (pS (pS (pS (pS (pS pZ))))))))) (kRetL gZ (kPair (kV (gS (gS (gS gZ)))) (kPair (kB mIx (kV (gS (gS (gS gZ)))) (kCallL m__law_take gZ pZ (kPair (kF (fun x => (x.length : Int)) (kV (gS (gS (gS gZ))))) kU0))) (kPair (kV (gS (gS (gS (gS gZ))))) (kPair (kV (gS (gS (gS (gS (gS gZ)))))) (kPair (kV (gS (gS (gS (gS (gS (gS gZ))))))) (kPair (kV (gS (gS (gS (gS (gS (gS (gS (gS gZ))))))))) kU0))))))))))))))) (iS (iS (iS (iZ ([], [], [], [], 0, [], ()))))) (fun _ => .bad) := rfl
abbrev s__law_system : Stmt := (topS 28)
theorem sc__law_system : FnScope ["_law_draws_here", "_law_most", "_law_mail", "_law_states", "_law_variables", "_law_channels", "_law_rules", "_law_k", "_law_bad"] ["_law_draws_here", "_law_most", "_law_mail"] (defScope s__law_system) := ⟨rfl, rfl, rfl, by decide +kernel, rfl, by decide +kernel, by decide +kernel⟩
theorem ok__law_system {f : Addr} {fd : FuncData} (D : DefAt K mg "_law_system" s__law_system ["_law_draws_here", "_law_most", "_law_mail"] f fd) (U : Uses K mg) {f__law_pattern : Addr} {fd__law_pattern : FuncData} (D__law_pattern : DefAt K mg "_law_pattern" s__law_pattern ["_law_draws_here", "_law_states", "_law_variables"] f__law_pattern fd__law_pattern) (G__law_pattern : FnOk P w K mg base (L2.CX P w) 3 f__law_pattern fd__law_pattern ["_law_draws_here", "_law_states", "_law_variables"] (spL (XRm mg) tInt (acons (fz (tLst tTxt)) (acons (fz (tLst (tP2 tTxt (tLst tTxt)))) anil)) (fz (tP2 (tLst (tP2 tTxt tInt)) (tLst (tP2 tTxt tTxt)))) m__law_pattern)) {f__law_rule : Addr} {fd__law_rule : FuncData} (D__law_rule : DefAt K mg "_law_rule" s__law_rule ["_law_draws_here", "_law_name", "_law_states", "_law_variables", "_law_channels"] f__law_rule fd__law_rule) (G__law_rule : FnOk P w K mg base (L2.CX P w) 3 f__law_rule fd__law_rule ["_law_draws_here", "_law_name", "_law_states", "_law_variables", "_law_channels"] (spL (XRm mg) tInt (acons (fz tTxt) (acons (fz (tLst tTxt)) (acons (fz (tLst (tP2 tTxt (tLst tTxt)))) (acons (fz (tLst (tP2 tTxt (tLst tTxt)))) anil)))) (fz (tH (hcons tTxt (hcons (tLst (tP2 tTxt tTxt)) (hcons (tLst (tP2 tTxt tTxt)) (hcons (tLst tTxt) (hcons (tLst (tP2 tTxt tTxt)) (hcons (tLst (tP2 tTxt tTxt)) (hcons (tLst (tP2 tTxt tTxt)) (hcons (tLst (tP2 tTxt tTxt)) hnil)))))))))) m__law_rule)) {f__law_take : Addr} {fd__law_take : FuncData} (D__law_take : DefAt K mg "_law_take" s__law_take ["_law_draws_here", "_law_limit"] f__law_take fd__law_take) (G__law_take : FnOk P w K mg base (L2.CX P w) 1 f__law_take fd__law_take ["_law_draws_here", "_law_limit"] (spL (XRm mg) tInt (acons (fz tInt) anil) (fz tInt) m__law_take)) : FnOk P w K mg base (L2.CX P w) 4 f fd ["_law_draws_here", "_law_most", "_law_mail"] (spL (XRm mg) tInt (acons (fz tInt) (acons (fz tBool) anil)) (fz (tH (hcons (tLst tTxt) (hcons tTxt (hcons (tLst (tP2 tTxt (tLst tTxt))) (hcons (tLst (tP2 tTxt (tLst tTxt))) (hcons (tLst (tH (hcons tTxt (hcons (tLst (tP2 tTxt tTxt)) (hcons (tLst (tP2 tTxt tTxt)) (hcons (tLst tTxt) (hcons (tLst (tP2 tTxt tTxt)) (hcons (tLst (tP2 tTxt tTxt)) (hcons (tLst (tP2 tTxt tTxt)) (hcons (tLst (tP2 tTxt tTxt)) hnil)))))))))) (hcons (tLst (tP2 (tLst (tP2 tTxt tInt)) (tLst (tP2 tTxt tTxt)))) hnil)))))))) m__law_system) :=
  fn_okK (G1 := fun _ => gnil) D.F sc__law_system rfl rfl (fun ad => (st_cons (st_cons (st_cons (st_nil (any_cons (any_cons (any_cons (any_cons (any_cons (any_cons any_nil))))))))))) (fun ad => fall_bad) (fun ad cdv A outer s H E hr =>
    (ss_cons (sm_set sc__law_system.nd rfl (.inr rfl) (At.s (At.s (At.s At.z))) (em_cutL (em_freeze (em_lstN (am_hcons (em_txt (x := ([105, 100, 108, 101] : List Nat)) (by decide +kernel) (by decide)) (am_hcons (em_txt (x := ([119, 97, 110, 116] : List Nat)) (by decide +kernel) (by decide)) (am_hcons (em_txt (x := ([99, 114, 105, 116] : List Nat)) (by decide +kernel) (by decide)) (am_hcons (em_txt (x := ([100, 111, 110, 101] : List Nat)) (by decide +kernel) (by decide)) (am_hnil (T := tTxt)))))) (ln_cons (ln_cons (ln_cons (ln_cons ln_nil)))) (by decide))) om_none (om_some (em_add em_int (em_callL (takes_of rfl rfl rfl rfl) G__law_take (hr.mono (by decide)) (by rfl) D__law_take.g D__law_take.F.kp D__law_take.b rfl (.inr (.inl rfl)) At.z (am_cons em_int am_nil))))) (hf := .inl rfl)) (ss_cons (sm_if (tm_c (cm_eqS scInt) (nomark _) (em_callL (takes_of rfl rfl rfl rfl) G__law_take (hr.mono (by decide)) (by rfl) D__law_take.g D__law_take.F.kp D__law_take.b rfl (.inr (.inl rfl)) At.z (am_cons em_int am_nil)) em_int) (ss_one (sm_reverse rfl (.inr (.inl rfl)) (At.s (At.s (At.s At.z))) (fun _ h => pe_bm0 PySem.F.plainAttrs_list PySem.F.slot_list_reverse PySem.F.type_list_reverse mt_reverse h))) (ss_nilI MvI.refl)) (ss_cons (sm_set sc__law_system.nd rfl (.inr rfl) (At.s (At.s (At.s (At.s At.z)))) (em_freeze (em_cutL (em_freeze (em_lstN (am_hcons (em_tup2 (am_cons (em_txt (x := ([108, 111, 99, 107] : List Nat)) (by decide +kernel) (by decide)) (am_cons (em_freeze (em_cutL (em_freeze (em_lstN (am_hcons (em_txt (x := ([102, 114, 101, 101] : List Nat)) (by decide +kernel) (by decide)) (am_hcons (em_txt (x := ([104, 101, 108, 100] : List Nat)) (by decide +kernel) (by decide)) (am_hcons (em_txt (x := ([100, 101, 97, 100] : List Nat)) (by decide +kernel) (by decide)) (am_hnil (T := tTxt))))) (ln_cons (ln_cons (ln_cons ln_nil))) (by decide))) om_none (om_some (em_add em_int (em_callL (takes_of rfl rfl rfl rfl) G__law_take (hr.mono (by decide)) (by rfl) D__law_take.g D__law_take.F.kp D__law_take.b rfl (.inr (.inl rfl)) At.z (am_cons em_int am_nil)))))) am_nil))) (am_hnil (T := (tP2 tTxt (tLst tTxt))))) (ln_cons ln_nil) (by decide))) om_none (om_some (em_ixL (fun _ _ => rfl) (em_freeze (em_lstN (am_hcons em_int (am_hcons em_int (am_hcons em_int (am_hnil (T := tInt))))) (ln_cons (ln_cons (ln_cons ln_nil))) (by decide))) (em_callL (takes_of rfl rfl rfl rfl) G__law_take (hr.mono (by decide)) (by rfl) D__law_take.g D__law_take.F.kp D__law_take.b rfl (.inr (.inl rfl)) At.z (am_cons em_int am_nil)))))) (hf := .inl rfl)) (ss_cons (sm_set sc__law_system.nd rfl (.inl rfl) (At.s (At.s (At.s (At.s (At.s At.z))))) (em_freeze (em_lstN (am_hnil (T := (tP2 tTxt (tLst tTxt)))) ln_nil (by decide))) (hf := .inl rfl)) (ss_cons (sm_if (tm_b (bm_and (tm_val (em_var rfl (.inl rfl) (At.s (At.s At.z)))) (bm_and1 (tm_c (cm_eqS scInt) (nomark _) (em_callL (takes_of rfl rfl rfl rfl) G__law_take (hr.mono (by decide)) (by rfl) D__law_take.g D__law_take.F.kp D__law_take.b rfl (.inr (.inl rfl)) At.z (am_cons em_int am_nil)) em_int)))) (ss_one (sm_set sc__law_system.nd rfl (.inl rfl) (At.s (At.s (At.s (At.s (At.s At.z))))) (em_freeze (em_lstN (am_hcons (em_tup2 (am_cons (em_txt (x := ([98, 111, 120] : List Nat)) (by decide +kernel) (by decide)) (am_cons (em_freeze (em_cutL (em_freeze (em_lstN (am_hcons (em_txt (x := ([112, 105, 110, 103] : List Nat)) (by decide +kernel) (by decide)) (am_hcons (em_txt (x := ([112, 111, 110, 103] : List Nat)) (by decide +kernel) (by decide)) (am_hnil (T := tTxt)))) (ln_cons (ln_cons ln_nil)) (by decide))) om_none (om_some (em_add em_int (em_callL (takes_of rfl rfl rfl rfl) G__law_take (hr.mono (by decide)) (by rfl) D__law_take.g D__law_take.F.kp D__law_take.b rfl (.inr (.inl rfl)) At.z (am_cons em_int am_nil)))))) am_nil))) (am_hnil (T := (tP2 tTxt (tLst tTxt))))) (ln_cons ln_nil) (by decide))) (hf := .inl rfl))) (ss_nilI MvI.refl)) (ss_cons (sm_set sc__law_system.nd rfl (.inl rfl) (At.s (At.s (At.s (At.s (At.s (At.s At.z)))))) (em_lstN (am_hnil (T := (tH (hcons tTxt (hcons (tLst (tP2 tTxt tTxt)) (hcons (tLst (tP2 tTxt tTxt)) (hcons (tLst tTxt) (hcons (tLst (tP2 tTxt tTxt)) (hcons (tLst (tP2 tTxt tTxt)) (hcons (tLst (tP2 tTxt tTxt)) (hcons (tLst (tP2 tTxt tTxt)) hnil))))))))))) ln_nil (by decide)) (hf := .inl rfl)) (ss_cons (sm_forI (passes_of rfl) rfl (im_range1 (by rfl) U.range (em_add em_int (em_callL (takes_of rfl rfl rfl rfl) G__law_take (hr.mono (by decide)) (by rfl) D__law_take.g D__law_take.F.kp D__law_take.b rfl (.inr (.inl rfl)) At.z (am_cons (em_var rfl (.inl rfl) (At.s At.z)) am_nil)))) (MvI.cons SMvI.refl (MvI.cons SMvI.refl (MvI.cons SMvI.refl (MvI.cons SMvI.freeze MvI.refl)))) (tgt_name sc__law_system.nd rfl (.inl rfl) (At.s (At.s (At.s (At.s (At.s (At.s (At.s At.z))))))) (.inl rfl)) (ss_cons (sm_append rfl (.inl rfl) (At.s (At.s (At.s (At.s (At.s (At.s At.z)))))) (em_callL (takes_of rfl rfl rfl rfl) G__law_rule (hr.mono (by decide)) (by rfl) D__law_rule.g D__law_rule.F.kp D__law_rule.b rfl (.inr (.inl rfl)) At.z (am_cons (em_addS (em_txt (x := ([114] : List Nat)) (by decide +kernel) (by decide)) (em_strI (by rfl) U.str (em_var rfl (.inl rfl) (At.s (At.s (At.s (At.s (At.s (At.s (At.s At.z)))))))))) (am_cons (em_var rfl (.inr (.inl rfl)) (At.s (At.s (At.s At.z)))) (am_cons (em_var rfl (.inr (.inl rfl)) (At.s (At.s (At.s (At.s At.z))))) (am_cons (em_var rfl (.inl rfl) (At.s (At.s (At.s (At.s (At.s At.z)))))) am_nil))))) (fun _ _ h h2 => pe_bm PySem.F.plainAttrs_list PySem.F.slot_list_append PySem.F.type_list_append mt_append h (pa_cons h2 pa_nil))) (ss_nilI (MvI.cons SMvI.refl (MvI.cons SMvI.refl (MvI.cons SMvI.refl (MvI.cons SMvI.refl (MvI.cons SMvI.refl (MvI.cons SMvI.refl (MvI.cons SMvI.refl (MvI.cons SMvI.hide MvI.refl))))))))))) (ss_cons (sm_setLcK (own := [("_law_k", 7)]) rfl sc__law_system.nd rfl rfl (At.s (At.s (At.s (At.s (At.s (At.s (At.s (At.s At.z)))))))) (sw_true rfl rfl rfl (by decide +kernel)) (im_range1 (by rfl) U.range (em_ixL (fun _ _ => rfl) (em_freeze (em_lstN (am_hcons em_int (am_hcons em_int (am_hcons em_int (am_hnil (T := tInt))))) (ln_cons (ln_cons (ln_cons ln_nil))) (by decide))) (em_callL (takes_of rfl rfl rfl rfl) G__law_take (hr.mono (by decide)) (by rfl) D__law_take.g D__law_take.F.kp D__law_take.b rfl (.inr (.inl rfl)) At.z (am_cons em_int am_nil)))) (blkOk_by (N := ["_law_draws_here", "_law_most", "_law_mail", "_law_states", "_law_variables", "_law_channels", "_law_rules", "_law_k", "_law_bad"]) (sc := (defScope s__law_system)) (by decide +kernel)) (ko_keep (by decide) (ko_keep (by decide) (ko_keep (by decide) (ko_keep (by decide) (ko_keep (by decide) (ko_keep (by decide) (ko_keep (by decide) (ko_any (ko_any ko_nil))))))))) (fun _ _ _ _ _ => (tgt_name sc__law_system.nd rfl (.inl (by rfl)) (At.s (At.s (At.s (At.s (At.s (At.s (At.s At.z))))))) (.inr (by rfl)))) (fun _ _ _ _ _ => (em_callL takes0 G__law_pattern (hr.mono (by decide)) (by rfl) D__law_pattern.g D__law_pattern.F.kp D__law_pattern.b rfl (by first | exact .inr (.inr rfl) | exact .inr (.inl rfl)) At.z (am_cons (em_var rfl (by first | exact .inr (.inr rfl) | exact .inr (.inl rfl)) (At.s (At.s (At.s At.z)))) (am_cons (em_var rfl (by first | exact .inr (.inr rfl) | exact .inr (.inl rfl)) (At.s (At.s (At.s (At.s At.z))))) am_nil)))) (bi_cons (bi_cons (bi_cons (bi_cons (bi_cons (bi_cons (bi_cons (bi_any bi_refl))))))))) (ss_mvI (MvI.cons SMvI.refl (MvI.cons SMvI.refl (MvI.cons SMvI.refl (MvI.cons SMvI.refl (MvI.cons SMvI.refl (MvI.cons SMvI.refl (MvI.cons SMvI.freeze MvI.refl))))))) (ss_mvI (MvI.cons SMvI.refl (MvI.cons SMvI.refl (MvI.cons SMvI.refl (MvI.cons SMvI.refl (MvI.cons SMvI.refl (MvI.cons SMvI.refl (MvI.cons SMvI.refl (MvI.cons SMvI.refl (MvI.cons SMvI.freeze MvI.refl))))))))) (ss_one (sm_retL At.z (em_tupH (am_Hcons (em_var rfl (.inr (.inl rfl)) (At.s (At.s (At.s At.z)))) (am_Hcons (em_ixL (fun _ _ => rfl) (em_var rfl (.inr (.inl rfl)) (At.s (At.s (At.s At.z)))) (em_callL (takes_of rfl rfl rfl rfl) G__law_take (hr.mono (by decide)) (by rfl) D__law_take.g D__law_take.F.kp D__law_take.b rfl (.inr (.inl rfl)) At.z (am_cons (em_len (by rfl) U.len (em_var rfl (.inr (.inl rfl)) (At.s (At.s (At.s At.z))))) am_nil))) (am_Hcons (em_var rfl (.inr (.inl rfl)) (At.s (At.s (At.s (At.s At.z))))) (am_Hcons (em_var rfl (.inl rfl) (At.s (At.s (At.s (At.s (At.s At.z)))))) (am_Hcons (em_var rfl (.inl rfl) (At.s (At.s (At.s (At.s (At.s (At.s At.z))))))) (am_Hcons (em_var rfl (.inl rfl) (At.s (At.s (At.s (At.s (At.s (At.s (At.s (At.s At.z))))))))) am_Hnil))))))))))))))))))))
/-! ### _law_made -/
noncomputable def m__law_made : ((List (List Nat)) × (List Nat) × (List ((List Nat) × (List (List Nat)))) × (List ((List Nat) × (List (List Nat)))) × (List ((List Nat) × (List ((List Nat) × (List Nat))) × (List ((List Nat) × (List Nat))) × (List (List Nat)) × (List ((List Nat) × (List Nat))) × (List ((List Nat) × (List Nat))) × (List ((List Nat) × (List Nat))) × (List ((List Nat) × (List Nat))) × Unit)) × (List ((List ((List Nat) × Int)) × (List ((List Nat) × (List Nat))))) × Unit) × Unit → Res RSystem := kRun (S := ((List (List Nat)) × (List Nat) × (List ((List Nat) × (List (List Nat)))) × (List ((List Nat) × (List (List Nat)))) × (List ((List Nat) × (List ((List Nat) × (List Nat))) × (List ((List Nat) × (List Nat))) × (List (List Nat)) × (List ((List Nat) × (List Nat))) × (List ((List Nat) × (List Nat))) × (List ((List Nat) × (List Nat))) × (List ((List Nat) × (List Nat))) × Unit)) × (List ((List ((List Nat) × Int)) × (List ((List Nat) × (List Nat))))) × Unit) × (List RRule) × ((List Nat) × (List ((List Nat) × (List Nat))) × (List ((List Nat) × (List Nat))) × (List (List Nat)) × (List ((List Nat) × (List Nat))) × (List ((List Nat) × (List Nat))) × (List ((List Nat) × (List Nat))) × (List ((List Nat) × (List Nat))) × Unit) × (List ((List ((List Nat) × Int)) × (List ((List Nat) × (List Nat))))) × (List ((List Nat) × (List (List Nat)))) × (List ((List Nat) × (List (List Nat)))) × (List (List Nat)) × (List Nat) × (List ((List Nat) × (List (List Nat)))) × (List ((List Nat) × (List (List Nat)))) × (List ((List Nat) × (List ((List Nat) × (List Nat))) × (List ((List Nat) × (List Nat))) × (List (List Nat)) × (List ((List Nat) × (List Nat))) × (List ((List Nat) × (List Nat))) × (List ((List Nat) × (List Nat))) × (List ((List Nat) × (List Nat))) × Unit)) × (List ((List ((List Nat) × Int)) × (List ((List Nat) × (List Nat))))) × (List Nat) × (List ((List Nat) × (List Nat))) × (List ((List Nat) × (List Nat))) × (List (List Nat)) × (List ((List Nat) × (List Nat))) × (List ((List Nat) × (List Nat))) × (List ((List Nat) × (List Nat))) × (List ((List Nat) × (List Nat))) × ((List ((List Nat) × Int)) × (List ((List Nat) × (List Nat)))) × ((List Nat) × (List (List Nat))) × Unit) (S' := Unit) (L := Unit) (kSeq (kSet (kV gZ) (pP (pS (pS (pS (pS (pS (pS pZ)))))) (pP (pS (pS (pS (pS (pS (pS (pS pZ))))))) (pP (pS (pS (pS (pS (pS (pS (pS (pS pZ)))))))) (pP (pS (pS (pS (pS (pS (pS (pS (pS (pS pZ))))))))) (pP (pS (pS (pS (pS (pS (pS (pS (pS (pS (pS pZ)))))))))) (pP (pS (pS (pS (pS (pS (pS (pS (pS (pS (pS (pS pZ))))))))))) pN))))))) (kSeq (kSet (kNil (α := RRule)) (pS pZ)) (kSeq (kFor (kV (gS (gS (gS (gS (gS (gS (gS (gS (gS (gS gZ))))))))))) (pS (pS pZ)) (kSeq (kSet (kV (gS (gS gZ))) (pP (pS (pS (pS (pS (pS (pS (pS (pS (pS (pS (pS (pS pZ)))))))))))) (pP (pS (pS (pS (pS (pS (pS (pS (pS (pS (pS (pS (pS (pS pZ))))))))))))) (pP (pS (pS (pS (pS (pS (pS (pS (pS (pS (pS (pS (pS (pS (pS pZ)))))))))))))) (pP (pS (pS (pS (pS (pS (pS (pS (pS (pS (pS (pS (pS (pS (pS (pS pZ))))))))))))))) (pP (pS (pS (pS (pS (pS (pS (pS (pS (pS (pS (pS (pS (pS (pS (pS (pS pZ)))))))))))))))) (pP (pS (pS (pS (pS (pS (pS (pS (pS (pS (pS (pS (pS (pS (pS (pS (pS (pS pZ))))))))))))))))) (pP (pS (pS (pS (pS (pS (pS (pS (pS (pS (pS (pS (pS (pS (pS (pS (pS (pS (pS pZ)))))))))))))))))) (pP (pS (pS (pS (pS (pS (pS (pS (pS (pS (pS (pS (pS (pS (pS (pS (pS (pS (pS (pS pZ))))))))))))))))))) pN))))))))) (kSeq (kApp (gS gZ) (pS pZ) (kMake m_Rule (kPair (kV (gS (gS (gS (gS (gS (gS (gS (gS (gS (gS (gS (gS gZ))))))))))))) (kPair (kU (fun x => .ok x) (kV (gS (gS (gS (gS (gS (gS (gS (gS (gS (gS (gS (gS (gS gZ))))))))))))))) (kPair (kU (fun x => .ok x) (kV (gS (gS (gS (gS (gS (gS (gS (gS (gS (gS (gS (gS (gS (gS gZ)))))))))))))))) (kPair (kU (fun x => .ok x) (kV (gS (gS (gS (gS (gS (gS (gS (gS (gS (gS (gS (gS (gS (gS (gS gZ))))))))))))))))) (kPair (kU (fun x => .ok x) (kV (gS (gS (gS (gS (gS (gS (gS (gS (gS (gS (gS (gS (gS (gS (gS (gS gZ)))))))))))))))))) (kPair (kU (fun x => .ok x) (kV (gS (gS (gS (gS (gS (gS (gS (gS (gS (gS (gS (gS (gS (gS (gS (gS (gS gZ))))))))))))))))))) (kPair (kU (fun x => .ok x) (kV (gS (gS (gS (gS (gS (gS (gS (gS (gS (gS (gS (gS (gS (gS (gS (gS (gS (gS gZ)))))))))))))))))))) (kPair (kU (fun x => .ok x) (kV (gS (gS (gS (gS (gS (gS (gS (gS (gS (gS (gS (gS (gS (gS (gS (gS (gS (gS (gS gZ))))))))))))))))))))) kU0)))))))))) kNx))) (kSeq (kSet (kLc (kV (gS (gS (gS (gS (gS (gS (gS (gS (gS (gS (gS gZ)))))))))))) (pS (pS (pS (pS (pS (pS (pS (pS (pS (pS (pS (pS (pS (pS (pS (pS (pS (pS (pS (pS pZ)))))))))))))))))))) (kF (fun x => (x.1, x.2.1)) (kPair (kU (fun x => .ok x) (kF (fun x => x.1) (kV (gS (gS (gS (gS (gS (gS (gS (gS (gS (gS (gS (gS (gS (gS (gS (gS (gS (gS (gS (gS gZ))))))))))))))))))))))) (kPair (kU (fun x => .ok x) (kF (fun x => x.2) (kV (gS (gS (gS (gS (gS (gS (gS (gS (gS (gS (gS (gS (gS (gS (gS (gS (gS (gS (gS (gS gZ))))))))))))))))))))))) kU0)))) (pS (pS (pS pZ)))) (kSeq (kSet (kLc (kV (gS (gS (gS (gS (gS (gS (gS (gS gZ))))))))) (pS (pS (pS (pS (pS (pS (pS (pS (pS (pS (pS (pS (pS (pS (pS (pS (pS (pS (pS (pS (pS pZ))))))))))))))))))))) (kF (fun x => (x.1, x.2.1)) (kPair (kF (fun x => x.1) (kV (gS (gS (gS (gS (gS (gS (gS (gS (gS (gS (gS (gS (gS (gS (gS (gS (gS (gS (gS (gS (gS gZ))))))))))))))))))))))) (kPair (kU (fun x => .ok x) (kF (fun x => x.2) (kV (gS (gS (gS (gS (gS (gS (gS (gS (gS (gS (gS (gS (gS (gS (gS (gS (gS (gS (gS (gS (gS gZ)))))))))))))))))))))))) kU0)))) (pS (pS (pS (pS pZ))))) (kSeq (kSet (kLc (kV (gS (gS (gS (gS (gS (gS (gS (gS (gS gZ)))))))))) (pS (pS (pS (pS (pS (pS (pS (pS (pS (pS (pS (pS (pS (pS (pS (pS (pS (pS (pS (pS (pS pZ))))))))))))))))))))) (kF (fun x => (x.1, x.2.1)) (kPair (kF (fun x => x.1) (kV (gS (gS (gS (gS (gS (gS (gS (gS (gS (gS (gS (gS (gS (gS (gS (gS (gS (gS (gS (gS (gS gZ))))))))))))))))))))))) (kPair (kU (fun x => .ok x) (kF (fun x => x.2) (kV (gS (gS (gS (gS (gS (gS (gS (gS (gS (gS (gS (gS (gS (gS (gS (gS (gS (gS (gS (gS (gS gZ)))))))))))))))))))))))) kU0)))) (pS (pS (pS (pS (pS pZ)))))) (kRet (kMake m_System (kPair (kU (fun x => .ok x) (kV (gS (gS (gS (gS (gS (gS gZ)))))))) (kPair (kV (gS (gS (gS (gS (gS (gS (gS gZ)))))))) (kPair (kV (gS (gS (gS (gS gZ))))) (kPair (kV (gS gZ)) (kPair (kV (gS (gS (gS gZ)))) (kPair (kV (gS (gS (gS (gS (gS gZ)))))) kU0)))))))))))))) (iS (iZ ([], ([], [], [], [], [], [], [], [], ()), [], [], [], [], [], [], [], [], [], [], [], [], [], [], [], [], [], ([], []), ([], []), ()))) (fun _ => .bad)
noncomputable def l__law_made_3 : (((List (List Nat)) × (List Nat) × (List ((List Nat) × (List (List Nat)))) × (List ((List Nat) × (List (List Nat)))) × (List ((List Nat) × (List ((List Nat) × (List Nat))) × (List ((List Nat) × (List Nat))) × (List (List Nat)) × (List ((List Nat) × (List Nat))) × (List ((List Nat) × (List Nat))) × (List ((List Nat) × (List Nat))) × (List ((List Nat) × (List Nat))) × Unit)) × (List ((List ((List Nat) × Int)) × (List ((List Nat) × (List Nat))))) × Unit) × (List RRule) × ((List Nat) × (List ((List Nat) × (List Nat))) × (List ((List Nat) × (List Nat))) × (List (List Nat)) × (List ((List Nat) × (List Nat))) × (List ((List Nat) × (List Nat))) × (List ((List Nat) × (List Nat))) × (List ((List Nat) × (List Nat))) × Unit) × (List ((List ((List Nat) × Int)) × (List ((List Nat) × (List Nat))))) × (List ((List Nat) × (List (List Nat)))) × (List ((List Nat) × (List (List Nat)))) × (List (List Nat)) × (List Nat) × (List ((List Nat) × (List (List Nat)))) × (List ((List Nat) × (List (List Nat)))) × (List ((List Nat) × (List ((List Nat) × (List Nat))) × (List ((List Nat) × (List Nat))) × (List (List Nat)) × (List ((List Nat) × (List Nat))) × (List ((List Nat) × (List Nat))) × (List ((List Nat) × (List Nat))) × (List ((List Nat) × (List Nat))) × Unit)) × (List ((List ((List Nat) × Int)) × (List ((List Nat) × (List Nat))))) × (List Nat) × (List ((List Nat) × (List Nat))) × (List ((List Nat) × (List Nat))) × (List (List Nat)) × (List ((List Nat) × (List Nat))) × (List ((List Nat) × (List Nat))) × (List ((List Nat) × (List Nat))) × (List ((List Nat) × (List Nat))) × ((List ((List Nat) × Int)) × (List ((List Nat) × (List Nat)))) × ((List Nat) × (List (List Nat))) × Unit) → Out (((List (List Nat)) × (List Nat) × (List ((List Nat) × (List (List Nat)))) × (List ((List Nat) × (List (List Nat)))) × (List ((List Nat) × (List ((List Nat) × (List Nat))) × (List ((List Nat) × (List Nat))) × (List (List Nat)) × (List ((List Nat) × (List Nat))) × (List ((List Nat) × (List Nat))) × (List ((List Nat) × (List Nat))) × (List ((List Nat) × (List Nat))) × Unit)) × (List ((List ((List Nat) × Int)) × (List ((List Nat) × (List Nat))))) × Unit) × (List RRule) × ((List Nat) × (List ((List Nat) × (List Nat))) × (List ((List Nat) × (List Nat))) × (List (List Nat)) × (List ((List Nat) × (List Nat))) × (List ((List Nat) × (List Nat))) × (List ((List Nat) × (List Nat))) × (List ((List Nat) × (List Nat))) × Unit) × (List ((List ((List Nat) × Int)) × (List ((List Nat) × (List Nat))))) × (List ((List Nat) × (List (List Nat)))) × (List ((List Nat) × (List (List Nat)))) × (List (List Nat)) × (List Nat) × (List ((List Nat) × (List (List Nat)))) × (List ((List Nat) × (List (List Nat)))) × (List ((List Nat) × (List ((List Nat) × (List Nat))) × (List ((List Nat) × (List Nat))) × (List (List Nat)) × (List ((List Nat) × (List Nat))) × (List ((List Nat) × (List Nat))) × (List ((List Nat) × (List Nat))) × (List ((List Nat) × (List Nat))) × Unit)) × (List ((List ((List Nat) × Int)) × (List ((List Nat) × (List Nat))))) × (List Nat) × (List ((List Nat) × (List Nat))) × (List ((List Nat) × (List Nat))) × (List (List Nat)) × (List ((List Nat) × (List Nat))) × (List ((List Nat) × (List Nat))) × (List ((List Nat) × (List Nat))) × (List ((List Nat) × (List Nat))) × ((List ((List Nat) × Int)) × (List ((List Nat) × (List Nat)))) × ((List Nat) × (List (List Nat))) × Unit) (((List (List Nat)) × (List Nat) × (List ((List Nat) × (List (List Nat)))) × (List ((List Nat) × (List (List Nat)))) × (List ((List Nat) × (List ((List Nat) × (List Nat))) × (List ((List Nat) × (List Nat))) × (List (List Nat)) × (List ((List Nat) × (List Nat))) × (List ((List Nat) × (List Nat))) × (List ((List Nat) × (List Nat))) × (List ((List Nat) × (List Nat))) × Unit)) × (List ((List ((List Nat) × Int)) × (List ((List Nat) × (List Nat))))) × Unit) × (List RRule) × ((List Nat) × (List ((List Nat) × (List Nat))) × (List ((List Nat) × (List Nat))) × (List (List Nat)) × (List ((List Nat) × (List Nat))) × (List ((List Nat) × (List Nat))) × (List ((List Nat) × (List Nat))) × (List ((List Nat) × (List Nat))) × Unit) × (List ((List ((List Nat) × Int)) × (List ((List Nat) × (List Nat))))) × (List ((List Nat) × (List (List Nat)))) × (List ((List Nat) × (List (List Nat)))) × (List (List Nat)) × (List Nat) × (List ((List Nat) × (List (List Nat)))) × (List ((List Nat) × (List (List Nat)))) × (List ((List Nat) × (List ((List Nat) × (List Nat))) × (List ((List Nat) × (List Nat))) × (List (List Nat)) × (List ((List Nat) × (List Nat))) × (List ((List Nat) × (List Nat))) × (List ((List Nat) × (List Nat))) × (List ((List Nat) × (List Nat))) × Unit)) × (List ((List ((List Nat) × Int)) × (List ((List Nat) × (List Nat))))) × (List Nat) × (List ((List Nat) × (List Nat))) × (List ((List Nat) × (List Nat))) × (List (List Nat)) × (List ((List Nat) × (List Nat))) × (List ((List Nat) × (List Nat))) × (List ((List Nat) × (List Nat))) × (List ((List Nat) × (List Nat))) × ((List ((List Nat) × Int)) × (List ((List Nat) × (List Nat)))) × ((List Nat) × (List (List Nat))) × Unit) RSystem := (kSeq (kSet (kV (gS (gS gZ))) (pP (pS (pS (pS (pS (pS (pS (pS (pS (pS (pS (pS (pS pZ)))))))))))) (pP (pS (pS (pS (pS (pS (pS (pS (pS (pS (pS (pS (pS (pS pZ))))))))))))) (pP (pS (pS (pS (pS (pS (pS (pS (pS (pS (pS (pS (pS (pS (pS pZ)))))))))))))) (pP (pS (pS (pS (pS (pS (pS (pS (pS (pS (pS (pS (pS (pS (pS (pS pZ))))))))))))))) (pP (pS (pS (pS (pS (pS (pS (pS (pS (pS (pS (pS (pS (pS (pS (pS (pS pZ)))))))))))))))) (pP (pS (pS (pS (pS (pS (pS (pS (pS (pS (pS (pS (pS (pS (pS (pS (pS (pS pZ))))))))))))))))) (pP (pS (pS (pS (pS (pS (pS (pS (pS (pS (pS (pS (pS (pS (pS (pS (pS (pS (pS pZ)))))))))))))))))) (pP (pS (pS (pS (pS (pS (pS (pS (pS (pS (pS (pS (pS (pS (pS (pS (pS (pS (pS (pS pZ))))))))))))))))))) pN))))))))) (kSeq (kApp (gS gZ) (pS pZ) (kMake m_Rule (kPair (kV (gS (gS (gS (gS (gS (gS (gS (gS (gS (gS (gS (gS gZ))))))))))))) (kPair (kU (fun x => .ok x) (kV (gS (gS (gS (gS (gS (gS (gS (gS (gS (gS (gS (gS (gS gZ))))))))))))))) (kPair (kU (fun x => .ok x) (kV (gS (gS (gS (gS (gS (gS (gS (gS (gS (gS (gS (gS (gS (gS gZ)))))))))))))))) (kPair (kU (fun x => .ok x) (kV (gS (gS (gS (gS (gS (gS (gS (gS (gS (gS (gS (gS (gS (gS (gS gZ))))))))))))))))) (kPair (kU (fun x => .ok x) (kV (gS (gS (gS (gS (gS (gS (gS (gS (gS (gS (gS (gS (gS (gS (gS (gS gZ)))))))))))))))))) (kPair (kU (fun x => .ok x) (kV (gS (gS (gS (gS (gS (gS (gS (gS (gS (gS (gS (gS (gS (gS (gS (gS (gS gZ))))))))))))))))))) (kPair (kU (fun x => .ok x) (kV (gS (gS (gS (gS (gS (gS (gS (gS (gS (gS (gS (gS (gS (gS (gS (gS (gS (gS gZ)))))))))))))))))))) (kPair (kU (fun x => .ok x) (kV (gS (gS (gS (gS (gS (gS (gS (gS (gS (gS (gS (gS (gS (gS (gS (gS (gS (gS (gS gZ))))))))))))))))))))) kU0)))))))))) kNx))
theorem n__law_made : m__law_made = kRun (S := ((List (List Nat)) × (List Nat) × (List ((List Nat) × (List (List Nat)))) × (List ((List Nat) × (List (List Nat)))) × (List ((List Nat) × (List ((List Nat) × (List Nat))) × (List ((List Nat) × (List Nat))) × (List (List Nat)) × (List ((List Nat) × (List Nat))) × (List ((List Nat) × (List Nat))) × (List ((List Nat) × (List Nat))) × (List ((List Nat) × (List Nat))) × Unit)) × (List ((List ((List Nat) × Int)) × (List ((List Nat) × (List Nat))))) × Unit) × (List RRule) × ((List Nat) × (List ((List Nat) × (List Nat))) × (List ((List Nat) × (List Nat))) × (List (List Nat)) × (List ((List Nat) × (List Nat))) × (List ((List Nat) × (List Nat))) × (List ((List Nat) × (List Nat))) × (List ((List Nat) × (List Nat))) × Unit) × (List ((List ((List Nat) × Int)) × (List ((List Nat) × (List Nat))))) × (List ((List Nat) × (List (List Nat)))) × (List ((List Nat) × (List (List Nat)))) × (List (List Nat)) × (List Nat) × (List ((List Nat) × (List (List Nat)))) × (List ((List Nat) × (List (List Nat)))) × (List ((List Nat) × (List ((List Nat) × (List Nat))) × (List ((List Nat) × (List Nat))) × (List (List Nat)) × (List ((List Nat) × (List Nat))) × (List ((List Nat) × (List Nat))) × (List ((List Nat) × (List Nat))) × (List ((List Nat) × (List Nat))) × Unit)) × (List ((List ((List Nat) × Int)) × (List ((List Nat) × (List Nat))))) × (List Nat) × (List ((List Nat) × (List Nat))) × (List ((List Nat) × (List Nat))) × (List (List Nat)) × (List ((List Nat) × (List Nat))) × (List ((List Nat) × (List Nat))) × (List ((List Nat) × (List Nat))) × (List ((List Nat) × (List Nat))) × ((List ((List Nat) × Int)) × (List ((List Nat) × (List Nat)))) × ((List Nat) × (List (List Nat))) × Unit) (S' := Unit) (L := Unit) (kSeq (kSet (kV gZ) (pP (pS (pS (pS (pS (pS (pS pZ)))))) (pP (pS (pS (pS (pS (pS (pS (pS pZ))))))) (pP (pS (pS (pS (pS (pS (pS (pS (pS pZ)))))))) (pP (pS (pS (pS (pS (pS (pS (pS (pS (pS pZ))))))))) (pP (pS (pS (pS (pS (pS (pS (pS (pS (pS (pS pZ)))))))))) (pP (pS (pS (pS (pS (pS (pS (pS (pS (pS (pS (pS pZ))))))))))) pN))))))) (kSeq (kSet (kNil (α := RRule)) (pS pZ)) (kSeq (kFor (kV (gS (gS (gS (gS (gS (gS (gS (gS (gS (gS gZ))))))))))) (pS (pS pZ)) l__law_made_3) (kSeq (kSet (kLc (kV (gS (gS (gS (gS (gS (gS (gS (gS (gS (gS (gS gZ)))))))))))) (pS (pS (pS (pS (pS (pS (pS (pS (pS (pS (pS (pS (pS (pS (pS (pS (pS (pS (pS (pS pZ)))))))))))))))))))) (kF (fun x => (x.1, x.2.1)) (kPair (kU (fun x => .ok x) (kF (fun x => x.1) (kV (gS (gS (gS (gS (gS (gS (gS (gS (gS (gS (gS (gS (gS (gS (gS (gS (gS (gS (gS (gS gZ))))))))))))))))))))))) (kPair (kU (fun x => .ok x) (kF (fun x => x.2) (kV (gS (gS (gS (gS (gS (gS (gS (gS (gS (gS (gS (gS (gS (gS (gS (gS (gS (gS (gS (gS gZ))))))))))))))))))))))) kU0)))) (pS (pS (pS pZ)))) (kSeq (kSet (kLc (kV (gS (gS (gS (gS (gS (gS (gS (gS gZ))))))))) (pS (pS (pS (pS (pS (pS (pS (pS (pS (pS (pS (pS (pS (pS (pS (pS (pS (pS (pS (pS (pS pZ))))))))))))))))))))) (kF (fun x => (x.1, x.2.1)) (kPair (kF (fun x => x.1) (kV (gS (gS (gS (gS (gS (gS (gS (gS (gS (gS (gS (gS (gS (gS (gS (gS (gS (gS (gS (gS (gS gZ))))))))))))))))))))))) (kPair (kU (fun x => .ok x) (kF (fun x => x.2) (kV (gS (gS (gS (gS (gS (gS (gS (gS (gS (gS (gS (gS (gS (gS (gS (gS (gS (gS (gS (gS (gS gZ)))))))))))))))))))))))) kU0)))) (pS (pS (pS (pS pZ))))) (kSeq (kSet (kLc (kV (gS (gS (gS (gS (gS (gS (gS (gS (gS gZ)))))))))) (pS (pS (pS (pS (pS (pS (pS (pS (pS (pS (pS (pS (pS (pS (pS (pS (pS (pS (pS (pS (pS pZ))))))))))))))))))))) (kF (fun x => (x.1, x.2.1)) (kPair (kF (fun x => x.1) (kV (gS (gS (gS (gS (gS (gS (gS (gS (gS (gS (gS (gS (gS (gS (gS (gS (gS (gS (gS (gS (gS gZ))))))))))))))))))))))) (kPair (kU (fun x => .ok x) (kF (fun x => x.2) (kV (gS (gS (gS (gS (gS (gS (gS (gS (gS (gS (gS (gS (gS (gS (gS (gS (gS (gS (gS (gS (gS gZ)))))))))))))))))))))))) kU0)))) (pS (pS (pS (pS (pS pZ)))))) (kRet (kMake m_System (kPair (kU (fun x => .ok x) (kV (gS (gS (gS (gS (gS (gS gZ)))))))) (kPair (kV (gS (gS (gS (gS (gS (gS (gS gZ)))))))) (kPair (kV (gS (gS (gS (gS gZ))))) (kPair (kV (gS gZ)) (kPair (kV (gS (gS (gS gZ)))) (kPair (kV (gS (gS (gS (gS (gS gZ)))))) kU0)))))))))))))) (iS (iZ ([], ([], [], [], [], [], [], [], [], ()), [], [], [], [], [], [], [], [], [], [], [], [], [], [], [], [], [], ([], []), ([], []), ()))) (fun _ => .bad) := rfl
abbrev s__law_made : Stmt := (topS 29)
theorem sc__law_made : FnScope ["_law_parts", "_law_made_here", "_law_rule_here", "_law_patterns", "_law_names", "_law_boxes", "_law_states", "_law_start", "_law_variables", "_law_channels", "_law_rules", "_law_bad", "_law_name", "_law_actors", "_law_everyone", "_law_born", "_law_conditions", "_law_effects", "_law_hears", "_law_sends", "_law_pattern_here", "_law_pair"] ["_law_parts"] (defScope s__law_made) := ⟨rfl, rfl, rfl, by decide +kernel, rfl, by decide +kernel, by decide +kernel⟩
theorem ok__law_made {f : Addr} {fd : FuncData} (D : DefAt K mg "_law_made" s__law_made ["_law_parts"] f fd) (U : Uses K mg) {CRule : Addr} {fi_Rule : Addr} {fdi_Rule : FuncData} (ORule : IniAtK K mg "Rule" "Rule.__init__" s_Rule ["self", "name", "actors", "everyone", "born", "conditions", "effects", "hears", "sends"] 2 ["everyone", "born", "conditions", "effects", "hears", "sends"] CRule fi_Rule fdi_Rule) (NRule : NARule K CRule) (I_Rule : FnOk P w K mg base (L2.CX P w) 2 fi_Rule fdi_Rule ["self", "name", "actors", "everyone", "born", "conditions", "effects", "hears", "sends"] (spI (XRm mg) CRule frRule (acons (fz tTxt) (acons (fz (tLst (tP2 tTxt tTxt))) (acons (fz (tLst (tP2 tTxt tTxt))) (acons (fz (tLst tTxt)) (acons (fz (tLst (tP2 tTxt tTxt))) (acons (fz (tLst (tP2 tTxt tTxt))) (acons (fz (tLst (tP2 tTxt tTxt))) (acons (fz (tLst (tP2 tTxt tTxt))) anil)))))))) m_Rule)) {CSystem : Addr} {fi_System : Addr} {fdi_System : FuncData} (OSystem : IniAtK K mg "System" "System.__init__" s_System ["self", "states", "start", "variables", "rules", "bad", "channels"] 5 ["channels"] CSystem fi_System fdi_System) (NSystem : NASystem K CSystem) (I_System : FnOk P w K mg base (L2.CX P w) 4 fi_System fdi_System ["self", "states", "start", "variables", "rules", "bad", "channels"] (spI (XRm mg) CSystem (frSystem CRule) (acons (fz (tLst tTxt)) (acons (fz tTxt) (acons (fz (tLst (tP2 tTxt (tLst tTxt)))) (acons (fz (tLst (tyRule CRule))) (acons (fz (tLst (tP2 (tLst (tP2 tTxt tInt)) (tLst (tP2 tTxt tTxt))))) (acons (fz (tLst (tP2 tTxt (tLst tTxt)))) anil)))))) m_System)) : FnOk P w K mg base (L2.CX P w) 6 f fd ["_law_parts"] (spP (XRm mg) (acons (fz (tH (hcons (tLst tTxt) (hcons tTxt (hcons (tLst (tP2 tTxt (tLst tTxt))) (hcons (tLst (tP2 tTxt (tLst tTxt))) (hcons (tLst (tH (hcons tTxt (hcons (tLst (tP2 tTxt tTxt)) (hcons (tLst (tP2 tTxt tTxt)) (hcons (tLst tTxt) (hcons (tLst (tP2 tTxt tTxt)) (hcons (tLst (tP2 tTxt tTxt)) (hcons (tLst (tP2 tTxt tTxt)) (hcons (tLst (tP2 tTxt tTxt)) hnil)))))))))) (hcons (tLst (tP2 (tLst (tP2 tTxt tInt)) (tLst (tP2 tTxt tTxt)))) hnil)))))))) anil) (fz (tySystem CSystem CRule)) m__law_made) :=
  fn_okK (G1 := fun _ => gnil) D.F sc__law_made rfl rfl (fun _ => (st_cons (st_nil (any_cons (any_cons (any_cons (any_cons (any_cons (any_cons (any_cons (any_cons (any_cons (any_cons (any_cons (any_cons (any_cons (any_cons (any_cons (any_cons (any_cons (any_cons (any_cons (any_cons (any_cons any_nil)))))))))))))))))))))))) (fun _ => fall_bad) (fun _ cdv A outer s H E hr =>
    (ss_cons (sm_unpack (R := fz (tH (hcons (tLst tTxt) (hcons tTxt (hcons (tLst (tP2 tTxt (tLst tTxt))) (hcons (tLst (tP2 tTxt (tLst tTxt))) (hcons (tLst (tH (hcons tTxt (hcons (tLst (tP2 tTxt tTxt)) (hcons (tLst (tP2 tTxt tTxt)) (hcons (tLst tTxt) (hcons (tLst (tP2 tTxt tTxt)) (hcons (tLst (tP2 tTxt tTxt)) (hcons (tLst (tP2 tTxt tTxt)) (hcons (tLst (tP2 tTxt tTxt)) hnil)))))))))) (hcons (tLst (tP2 (tLst (tP2 tTxt tInt)) (tLst (tP2 tTxt tTxt)))) hnil)))))))) (tgt_H rfl (tgs_cons (tgt_name sc__law_made.nd rfl (.inl rfl) (At.s (At.s (At.s (At.s (At.s (At.s At.z)))))) (.inl rfl)) (tgs_cons (tgt_name sc__law_made.nd rfl (.inl rfl) (At.s (At.s (At.s (At.s (At.s (At.s (At.s At.z))))))) (.inl rfl)) (tgs_cons (tgt_name sc__law_made.nd rfl (.inl rfl) (At.s (At.s (At.s (At.s (At.s (At.s (At.s (At.s At.z)))))))) (.inl rfl)) (tgs_cons (tgt_name sc__law_made.nd rfl (.inl rfl) (At.s (At.s (At.s (At.s (At.s (At.s (At.s (At.s (At.s At.z))))))))) (.inl rfl)) (tgs_cons (tgt_name sc__law_made.nd rfl (.inl rfl) (At.s (At.s (At.s (At.s (At.s (At.s (At.s (At.s (At.s (At.s At.z)))))))))) (.inl rfl)) (tgs_cons (tgt_name sc__law_made.nd rfl (.inl rfl) (At.s (At.s (At.s (At.s (At.s (At.s (At.s (At.s (At.s (At.s (At.s At.z))))))))))) (.inl rfl)) tgs_nil)))))) rfl (fun _ h => pg_tup rfl h)) (em_var rfl (.inl rfl) At.z) (fun _ _ h h2 => ps_asg h h2)) (ss_cons (sm_set sc__law_made.nd rfl (.inl rfl) (At.s At.z) (em_lstN (am_hnil (T := (tyRule CRule))) ln_nil (by decide)) (hf := .inl rfl)) (ss_cons (sm_forI (passes_of rfl) rfl (im_list (em_var rfl (.inl rfl) (At.s (At.s (At.s (At.s (At.s (At.s (At.s (At.s (At.s (At.s At.z)))))))))))) MvI.refl (tgt_name sc__law_made.nd rfl (.inl rfl) (At.s (At.s At.z)) (.inl rfl)) (ss_cons (sm_unpack (R := fz (tH (hcons tTxt (hcons (tLst (tP2 tTxt tTxt)) (hcons (tLst (tP2 tTxt tTxt)) (hcons (tLst tTxt) (hcons (tLst (tP2 tTxt tTxt)) (hcons (tLst (tP2 tTxt tTxt)) (hcons (tLst (tP2 tTxt tTxt)) (hcons (tLst (tP2 tTxt tTxt)) hnil)))))))))) (tgt_H rfl (tgs_cons (tgt_name sc__law_made.nd rfl (.inl rfl) (At.s (At.s (At.s (At.s (At.s (At.s (At.s (At.s (At.s (At.s (At.s (At.s At.z)))))))))))) (.inl rfl)) (tgs_cons (tgt_name sc__law_made.nd rfl (.inl rfl) (At.s (At.s (At.s (At.s (At.s (At.s (At.s (At.s (At.s (At.s (At.s (At.s (At.s At.z))))))))))))) (.inl rfl)) (tgs_cons (tgt_name sc__law_made.nd rfl (.inl rfl) (At.s (At.s (At.s (At.s (At.s (At.s (At.s (At.s (At.s (At.s (At.s (At.s (At.s (At.s At.z)))))))))))))) (.inl rfl)) (tgs_cons (tgt_name sc__law_made.nd rfl (.inl rfl) (At.s (At.s (At.s (At.s (At.s (At.s (At.s (At.s (At.s (At.s (At.s (At.s (At.s (At.s (At.s At.z))))))))))))))) (.inl rfl)) (tgs_cons (tgt_name sc__law_made.nd rfl (.inl rfl) (At.s (At.s (At.s (At.s (At.s (At.s (At.s (At.s (At.s (At.s (At.s (At.s (At.s (At.s (At.s (At.s At.z)))))))))))))))) (.inl rfl)) (tgs_cons (tgt_name sc__law_made.nd rfl (.inl rfl) (At.s (At.s (At.s (At.s (At.s (At.s (At.s (At.s (At.s (At.s (At.s (At.s (At.s (At.s (At.s (At.s (At.s At.z))))))))))))))))) (.inl rfl)) (tgs_cons (tgt_name sc__law_made.nd rfl (.inl rfl) (At.s (At.s (At.s (At.s (At.s (At.s (At.s (At.s (At.s (At.s (At.s (At.s (At.s (At.s (At.s (At.s (At.s (At.s At.z)))))))))))))))))) (.inl rfl)) (tgs_cons (tgt_name sc__law_made.nd rfl (.inl rfl) (At.s (At.s (At.s (At.s (At.s (At.s (At.s (At.s (At.s (At.s (At.s (At.s (At.s (At.s (At.s (At.s (At.s (At.s (At.s At.z))))))))))))))))))) (.inl rfl)) tgs_nil)))))))) rfl (fun _ h => pg_tup rfl h)) (em_var rfl (.inl rfl) (At.s (At.s At.z))) (fun _ _ h h2 => ps_asg h h2)) (ss_cons (sm_append rfl (.inl rfl) (At.s At.z) (em_makeK (ks := ["everyone", "born", "conditions", "effects", "hears", "sends"]) (takes_of rfl rfl rfl rfl) ORule.mkr I_Rule (hr.mono (by decide)) (by rfl) ORule.g ORule.b (amk_cons (em_var rfl (.inl rfl) (At.s (At.s (At.s (At.s (At.s (At.s (At.s (At.s (At.s (At.s (At.s (At.s At.z))))))))))))) (amk_cons (em_freeze (em_listL (by rfl) U.list (em_var rfl (.inl rfl) (At.s (At.s (At.s (At.s (At.s (At.s (At.s (At.s (At.s (At.s (At.s (At.s (At.s At.z)))))))))))))))) (amk_base (ak_cons (em_freeze (em_listL (by rfl) U.list (em_var rfl (.inl rfl) (At.s (At.s (At.s (At.s (At.s (At.s (At.s (At.s (At.s (At.s (At.s (At.s (At.s (At.s At.z))))))))))))))))) (ak_cons (em_freeze (em_listL (by rfl) U.list (em_var rfl (.inl rfl) (At.s (At.s (At.s (At.s (At.s (At.s (At.s (At.s (At.s (At.s (At.s (At.s (At.s (At.s (At.s At.z)))))))))))))))))) (ak_cons (em_freeze (em_listL (by rfl) U.list (em_var rfl (.inl rfl) (At.s (At.s (At.s (At.s (At.s (At.s (At.s (At.s (At.s (At.s (At.s (At.s (At.s (At.s (At.s (At.s At.z))))))))))))))))))) (ak_cons (em_freeze (em_listL (by rfl) U.list (em_var rfl (.inl rfl) (At.s (At.s (At.s (At.s (At.s (At.s (At.s (At.s (At.s (At.s (At.s (At.s (At.s (At.s (At.s (At.s (At.s At.z)))))))))))))))))))) (ak_cons (em_freeze (em_listL (by rfl) U.list (em_var rfl (.inl rfl) (At.s (At.s (At.s (At.s (At.s (At.s (At.s (At.s (At.s (At.s (At.s (At.s (At.s (At.s (At.s (At.s (At.s (At.s At.z))))))))))))))))))))) (ak_cons (em_freeze (em_listL (by rfl) U.list (em_var rfl (.inl rfl) (At.s (At.s (At.s (At.s (At.s (At.s (At.s (At.s (At.s (At.s (At.s (At.s (At.s (At.s (At.s (At.s (At.s (At.s (At.s At.z)))))))))))))))))))))) ak_nil)))))))))) (fun _ _ h h2 => pe_bm PySem.F.plainAttrs_list PySem.F.slot_list_append PySem.F.type_list_append mt_append h (pa_cons h2 pa_nil))) (ss_nilI (MvI.cons SMvI.refl (MvI.cons SMvI.refl (MvI.cons SMvI.hide (MvI.cons SMvI.refl (MvI.cons SMvI.refl (MvI.cons SMvI.refl (MvI.cons SMvI.refl (MvI.cons SMvI.refl (MvI.cons SMvI.refl (MvI.cons SMvI.refl (MvI.cons SMvI.refl (MvI.cons SMvI.refl (MvI.cons SMvI.hide (MvI.cons SMvI.hide (MvI.cons SMvI.hide (MvI.cons SMvI.hide (MvI.cons SMvI.hide (MvI.cons SMvI.hide (MvI.cons SMvI.hide (MvI.cons SMvI.hide MvI.refl)))))))))))))))))))))))) (ss_cons (sm_setLcK (own := [("_law_pattern_here", 20)]) rfl sc__law_made.nd rfl rfl (At.s (At.s (At.s At.z))) (sw_true rfl rfl rfl (by decide +kernel)) (im_list (em_var rfl (.inl rfl) (At.s (At.s (At.s (At.s (At.s (At.s (At.s (At.s (At.s (At.s (At.s At.z))))))))))))) (blkOk_by (N := ["_law_parts", "_law_made_here", "_law_rule_here", "_law_patterns", "_law_names", "_law_boxes", "_law_states", "_law_start", "_law_variables", "_law_channels", "_law_rules", "_law_bad", "_law_name", "_law_actors", "_law_everyone", "_law_born", "_law_conditions", "_law_effects", "_law_hears", "_law_sends", "_law_pattern_here", "_law_pair"]) (sc := (defScope s__law_made)) (by decide +kernel)) (ko_keep (by decide) (ko_keep (by decide) (ko_any (ko_any (ko_any (ko_any (ko_keep (by decide) (ko_keep (by decide) (ko_keep (by decide) (ko_keep (by decide) (ko_keep (by decide) (ko_keep (by decide) (ko_any (ko_any (ko_any (ko_any (ko_any (ko_any (ko_any (ko_any (ko_any (ko_any ko_nil)))))))))))))))))))))) (fun _ _ _ _ _ => (tgt_name sc__law_made.nd rfl (.inl (by rfl)) (At.s (At.s (At.s (At.s (At.s (At.s (At.s (At.s (At.s (At.s (At.s (At.s (At.s (At.s (At.s (At.s (At.s (At.s (At.s (At.s At.z)))))))))))))))))))) (.inr (by rfl)))) (fun _ _ _ _ _ => (em_tup2 (am_cons (em_freeze (em_listL (by rfl) U.list (em_p0 (em_var rfl (.inl (by rfl)) (At.s (At.s (At.s (At.s (At.s (At.s (At.s (At.s (At.s (At.s (At.s (At.s (At.s (At.s (At.s (At.s (At.s (At.s (At.s (At.s At.z)))))))))))))))))))))))) (am_cons (em_freeze (em_listL (by rfl) U.list (em_p1 (em_var rfl (.inl (by rfl)) (At.s (At.s (At.s (At.s (At.s (At.s (At.s (At.s (At.s (At.s (At.s (At.s (At.s (At.s (At.s (At.s (At.s (At.s (At.s (At.s At.z)))))))))))))))))))))))) am_nil)))) (bi_cons (bi_cons (bi_cons (bi_cons (bi_cons (bi_cons (bi_cons (bi_cons (bi_cons (bi_cons (bi_cons (bi_cons (bi_cons (bi_cons (bi_cons (bi_cons (bi_cons (bi_cons (bi_cons (bi_cons (bi_any bi_refl)))))))))))))))))))))) (ss_cons (sm_setLcK (own := [("_law_pair", 21)]) rfl sc__law_made.nd rfl rfl (At.s (At.s (At.s (At.s At.z)))) (sw_true rfl rfl rfl (by decide +kernel)) (im_list (em_var rfl (.inl rfl) (At.s (At.s (At.s (At.s (At.s (At.s (At.s (At.s At.z)))))))))) (blkOk_by (N := ["_law_parts", "_law_made_here", "_law_rule_here", "_law_patterns", "_law_names", "_law_boxes", "_law_states", "_law_start", "_law_variables", "_law_channels", "_law_rules", "_law_bad", "_law_name", "_law_actors", "_law_everyone", "_law_born", "_law_conditions", "_law_effects", "_law_hears", "_law_sends", "_law_pattern_here", "_law_pair"]) (sc := (defScope s__law_made)) (by decide +kernel)) (ko_keep (by decide) (ko_keep (by decide) (ko_any (ko_keep (by decide) (ko_any (ko_any (ko_keep (by decide) (ko_keep (by decide) (ko_keep (by decide) (ko_keep (by decide) (ko_keep (by decide) (ko_keep (by decide) (ko_any (ko_any (ko_any (ko_any (ko_any (ko_any (ko_any (ko_any (ko_any (ko_any ko_nil)))))))))))))))))))))) (fun _ _ _ _ _ => (tgt_name sc__law_made.nd rfl (.inl (by rfl)) (At.s (At.s (At.s (At.s (At.s (At.s (At.s (At.s (At.s (At.s (At.s (At.s (At.s (At.s (At.s (At.s (At.s (At.s (At.s (At.s (At.s At.z))))))))))))))))))))) (.inr (by rfl)))) (fun _ _ _ _ _ => (em_tup2 (am_cons (em_p0 (em_var rfl (.inl (by rfl)) (At.s (At.s (At.s (At.s (At.s (At.s (At.s (At.s (At.s (At.s (At.s (At.s (At.s (At.s (At.s (At.s (At.s (At.s (At.s (At.s (At.s At.z))))))))))))))))))))))) (am_cons (em_freeze (em_listL (by rfl) U.list (em_p1 (em_var rfl (.inl (by rfl)) (At.s (At.s (At.s (At.s (At.s (At.s (At.s (At.s (At.s (At.s (At.s (At.s (At.s (At.s (At.s (At.s (At.s (At.s (At.s (At.s (At.s At.z))))))))))))))))))))))))) am_nil)))) (bi_cons (bi_cons (bi_cons (bi_cons (bi_cons (bi_cons (bi_cons (bi_cons (bi_cons (bi_cons (bi_cons (bi_cons (bi_cons (bi_cons (bi_cons (bi_cons (bi_cons (bi_cons (bi_cons (bi_cons (bi_cons (bi_any bi_refl))))))))))))))))))))))) (ss_cons (sm_setLcK (own := [("_law_pair", 21)]) rfl sc__law_made.nd rfl rfl (At.s (At.s (At.s (At.s (At.s At.z))))) (sw_true rfl rfl rfl (by decide +kernel)) (im_list (em_var rfl (.inl rfl) (At.s (At.s (At.s (At.s (At.s (At.s (At.s (At.s (At.s At.z))))))))))) (blkOk_by (N := ["_law_parts", "_law_made_here", "_law_rule_here", "_law_patterns", "_law_names", "_law_boxes", "_law_states", "_law_start", "_law_variables", "_law_channels", "_law_rules", "_law_bad", "_law_name", "_law_actors", "_law_everyone", "_law_born", "_law_conditions", "_law_effects", "_law_hears", "_law_sends", "_law_pattern_here", "_law_pair"]) (sc := (defScope s__law_made)) (by decide +kernel)) (ko_keep (by decide) (ko_keep (by decide) (ko_any (ko_keep (by decide) (ko_keep (by decide) (ko_any (ko_keep (by decide) (ko_keep (by decide) (ko_keep (by decide) (ko_keep (by decide) (ko_keep (by decide) (ko_keep (by decide) (ko_any (ko_any (ko_any (ko_any (ko_any (ko_any (ko_any (ko_any (ko_any (ko_any ko_nil)))))))))))))))))))))) (fun _ _ _ _ _ => (tgt_name sc__law_made.nd rfl (.inl (by rfl)) (At.s (At.s (At.s (At.s (At.s (At.s (At.s (At.s (At.s (At.s (At.s (At.s (At.s (At.s (At.s (At.s (At.s (At.s (At.s (At.s (At.s At.z))))))))))))))))))))) (.inr (by rfl)))) (fun _ _ _ _ _ => (em_tup2 (am_cons (em_p0 (em_var rfl (.inl (by rfl)) (At.s (At.s (At.s (At.s (At.s (At.s (At.s (At.s (At.s (At.s (At.s (At.s (At.s (At.s (At.s (At.s (At.s (At.s (At.s (At.s (At.s At.z))))))))))))))))))))))) (am_cons (em_freeze (em_listL (by rfl) U.list (em_p1 (em_var rfl (.inl (by rfl)) (At.s (At.s (At.s (At.s (At.s (At.s (At.s (At.s (At.s (At.s (At.s (At.s (At.s (At.s (At.s (At.s (At.s (At.s (At.s (At.s (At.s At.z))))))))))))))))))))))))) am_nil)))) (bi_cons (bi_cons (bi_cons (bi_cons (bi_cons (bi_cons (bi_cons (bi_cons (bi_cons (bi_cons (bi_cons (bi_cons (bi_cons (bi_cons (bi_cons (bi_cons (bi_cons (bi_cons (bi_cons (bi_cons (bi_cons (bi_any bi_refl))))))))))))))))))))))) (ss_mvI (MvI.cons SMvI.refl (MvI.cons SMvI.refl (MvI.cons SMvI.refl (MvI.cons SMvI.refl (MvI.cons SMvI.freeze MvI.refl))))) (ss_mvI (MvI.cons SMvI.refl (MvI.cons SMvI.freeze MvI.refl)) (ss_mvI (MvI.cons SMvI.refl (MvI.cons SMvI.refl (MvI.cons SMvI.refl (MvI.cons SMvI.freeze MvI.refl)))) (ss_mvI (MvI.cons SMvI.refl (MvI.cons SMvI.refl (MvI.cons SMvI.refl (MvI.cons SMvI.refl (MvI.cons SMvI.refl (MvI.cons SMvI.freeze MvI.refl)))))) (ss_one (sm_retP (em_makeK (ks := ["channels"]) (takes_of rfl rfl rfl rfl) OSystem.mkr I_System (hr.mono (by decide)) (by rfl) OSystem.g OSystem.b (amk_cons (em_freeze (em_listL (by rfl) U.list (em_var rfl (.inl rfl) (At.s (At.s (At.s (At.s (At.s (At.s At.z))))))))) (amk_cons (em_var rfl (.inl rfl) (At.s (At.s (At.s (At.s (At.s (At.s (At.s At.z)))))))) (amk_cons (em_var rfl (.inl rfl) (At.s (At.s (At.s (At.s At.z))))) (amk_cons (em_var rfl (.inl rfl) (At.s At.z)) (amk_cons (em_var rfl (.inl rfl) (At.s (At.s (At.s At.z)))) (amk_base (ak_cons (em_var rfl (.inl rfl) (At.s (At.s (At.s (At.s (At.s At.z)))))) ak_nil)))))))))))))))))))))
/-! ### _law_outcome -/
noncomputable def m__law_outcome : ((List (List Nat)) × (List Nat) × (List ((List Nat) × (List (List Nat)))) × (List ((List Nat) × (List (List Nat)))) × (List ((List Nat) × (List ((List Nat) × (List Nat))) × (List ((List Nat) × (List Nat))) × (List (List Nat)) × (List ((List Nat) × (List Nat))) × (List ((List Nat) × (List Nat))) × (List ((List Nat) × (List Nat))) × (List ((List Nat) × (List Nat))) × Unit)) × (List ((List ((List Nat) × Int)) × (List ((List Nat) × (List Nat))))) × Unit) × Unit → Res (Option RSystem) := kRun (S := ((List (List Nat)) × (List Nat) × (List ((List Nat) × (List (List Nat)))) × (List ((List Nat) × (List (List Nat)))) × (List ((List Nat) × (List ((List Nat) × (List Nat))) × (List ((List Nat) × (List Nat))) × (List (List Nat)) × (List ((List Nat) × (List Nat))) × (List ((List Nat) × (List Nat))) × (List ((List Nat) × (List Nat))) × (List ((List Nat) × (List Nat))) × Unit)) × (List ((List ((List Nat) × Int)) × (List ((List Nat) × (List Nat))))) × Unit) × Unit) (S' := Unit) (L := Unit) (kTry "InvalidProtocol" (kRet (kF some (kU m__law_made (kPair (kV gZ) kU0)))) (fun _ => kRet (kC (none : (Option RSystem))) ())) (iS (iZ ())) (fun _ => .bad)
abbrev s__law_outcome : Stmt := (topS 30)
theorem sc__law_outcome : FnScope ["_law_parts"] ["_law_parts"] (defScope s__law_outcome) := ⟨rfl, rfl, rfl, by decide +kernel, rfl, by decide +kernel, by decide +kernel⟩
theorem ok__law_outcome {f : Addr} {fd : FuncData} (D : DefAt K mg "_law_outcome" s__law_outcome ["_law_parts"] f fd) (U : Uses K mg) {CRule : Addr} {fi_Rule : Addr} {fdi_Rule : FuncData} (ORule : IniAtK K mg "Rule" "Rule.__init__" s_Rule ["self", "name", "actors", "everyone", "born", "conditions", "effects", "hears", "sends"] 2 ["everyone", "born", "conditions", "effects", "hears", "sends"] CRule fi_Rule fdi_Rule) (NRule : NARule K CRule) {CSystem : Addr} {fi_System : Addr} {fdi_System : FuncData} (OSystem : IniAtK K mg "System" "System.__init__" s_System ["self", "states", "start", "variables", "rules", "bad", "channels"] 5 ["channels"] CSystem fi_System fdi_System) (NSystem : NASystem K CSystem) {f__law_made : Addr} {fd__law_made : FuncData} (D__law_made : DefAt K mg "_law_made" s__law_made ["_law_parts"] f__law_made fd__law_made) (G__law_made : FnOk P w K mg base (L2.CX P w) 6 f__law_made fd__law_made ["_law_parts"] (spP (XRm mg) (acons (fz (tH (hcons (tLst tTxt) (hcons tTxt (hcons (tLst (tP2 tTxt (tLst tTxt))) (hcons (tLst (tP2 tTxt (tLst tTxt))) (hcons (tLst (tH (hcons tTxt (hcons (tLst (tP2 tTxt tTxt)) (hcons (tLst (tP2 tTxt tTxt)) (hcons (tLst tTxt) (hcons (tLst (tP2 tTxt tTxt)) (hcons (tLst (tP2 tTxt tTxt)) (hcons (tLst (tP2 tTxt tTxt)) (hcons (tLst (tP2 tTxt tTxt)) hnil)))))))))) (hcons (tLst (tP2 (tLst (tP2 tTxt tInt)) (tLst (tP2 tTxt tTxt)))) hnil)))))))) anil) (fz (tySystem CSystem CRule)) m__law_made)) {CInvalidProtocol : Addr} (X_InvalidProtocol : ExTx K mg "InvalidProtocol" CInvalidProtocol) : FnOk P w K mg base (L2.CX P w) 7 f fd ["_law_parts"] (spP (XRm mg) (acons (fz (tH (hcons (tLst tTxt) (hcons tTxt (hcons (tLst (tP2 tTxt (tLst tTxt))) (hcons (tLst (tP2 tTxt (tLst tTxt))) (hcons (tLst (tH (hcons tTxt (hcons (tLst (tP2 tTxt tTxt)) (hcons (tLst (tP2 tTxt tTxt)) (hcons (tLst tTxt) (hcons (tLst (tP2 tTxt tTxt)) (hcons (tLst (tP2 tTxt tTxt)) (hcons (tLst (tP2 tTxt tTxt)) (hcons (tLst (tP2 tTxt tTxt)) hnil)))))))))) (hcons (tLst (tP2 (tLst (tP2 tTxt tInt)) (tLst (tP2 tTxt tTxt)))) hnil)))))))) anil) (fz (tOpt (tySystem CSystem CRule))) m__law_outcome) :=
  fn_okK (G1 := fun _ => gnil) D.F sc__law_outcome rfl rfl (fun _ => (st_cons (st_nil any_nil))) (fun _ => fall_bad) (fun _ cdv A outer s H E hr =>
    (ss_one (sm_tryOnly rfl rfl (takes_of rfl rfl rfl rfl) X_InvalidProtocol.g X_InvalidProtocol.e rfl rfl (by rfl) (by decide) (fun W pn xe tkT hpT => (ss_one (sm_retP (em_some (nnObj) (em_call tkT G__law_made (hr.mono (by decide)) (by rfl) D__law_made.g D__law_made.F.kp D__law_made.b (am_cons (em_var rfl (.inl rfl) At.z) am_nil)))))) (fun a pn => ss_one (sm_retP (em_none (T := (tySystem CSystem CRule))))))))
/-! ### _law_spoilt_rule -/
noncomputable def m__law_spoilt_rule : (List Int) × ((List Nat) × (List ((List Nat) × (List Nat))) × (List ((List Nat) × (List Nat))) × (List (List Nat)) × (List ((List Nat) × (List Nat))) × (List ((List Nat) × (List Nat))) × (List ((List Nat) × (List Nat))) × (List ((List Nat) × (List Nat))) × Unit) × (List (List Nat)) × Unit → Res (((List Nat) × (List ((List Nat) × (List Nat))) × (List ((List Nat) × (List Nat))) × (List (List Nat)) × (List ((List Nat) × (List Nat))) × (List ((List Nat) × (List Nat))) × (List ((List Nat) × (List Nat))) × (List ((List Nat) × (List Nat))) × Unit) × List Int) := kRun (S := (List Int) × ((List Nat) × (List ((List Nat) × (List Nat))) × (List ((List Nat) × (List Nat))) × (List (List Nat)) × (List ((List Nat) × (List Nat))) × (List ((List Nat) × (List Nat))) × (List ((List Nat) × (List Nat))) × (List ((List Nat) × (List Nat))) × Unit) × (List (List Nat)) × Int × (List Nat) × (List ((List Nat) × (List Nat))) × (List ((List Nat) × (List Nat))) × (List (List Nat)) × (List ((List Nat) × (List Nat))) × (List ((List Nat) × (List Nat))) × (List ((List Nat) × (List Nat))) × (List ((List Nat) × (List Nat))) × Unit) (S' := Unit) (L := Unit) (kSeq (kSet (kCallL m__law_take gZ pZ (kPair (kC (12 : Int)) kU0)) (pS (pS (pS pZ)))) (kSeq (kSet (kV (gS gZ)) (pP (pS (pS (pS (pS pZ)))) (pP (pS (pS (pS (pS (pS pZ))))) (pP (pS (pS (pS (pS (pS (pS pZ)))))) (pP (pS (pS (pS (pS (pS (pS (pS pZ))))))) (pP (pS (pS (pS (pS (pS (pS (pS (pS pZ)))))))) (pP (pS (pS (pS (pS (pS (pS (pS (pS (pS pZ))))))))) (pP (pS (pS (pS (pS (pS (pS (pS (pS (pS (pS pZ)))))))))) (pP (pS (pS (pS (pS (pS (pS (pS (pS (pS (pS (pS pZ))))))))))) pN))))))))) (kSeq (kIf (kCmp mEq (kV (gS (gS (gS gZ)))) (kC (0 : Int))) (kSet (kB mIx (kCons (kC ([] : List Nat)) (kCons (kC ([82, 117, 108, 101] : List Nat)) (kCons (kC ([105, 102] : List Nat)) (kCons (kC ([57, 97] : List Nat)) (kCons (kC ([103, 111, 110, 101] : List Nat)) (kCons (kC ([97, 95, 98] : List Nat)) kNil)))))) (kCallL m__law_take gZ pZ (kPair (kC (6 : Int)) kU0))) (pS (pS (pS (pS pZ))))) kNx) (kSeq (kIf (kCmp mEq (kV (gS (gS (gS gZ)))) (kC (1 : Int))) (kSet (kB mIx (kCons (kNil (α := ((List Nat) × (List Nat)))) (kCons (kB mRep (kCons (kF (fun x => (x.1, x.2.1)) (kPair (kB mIx (kV (gS (gS gZ))) (kC (0 : Int))) (kPair (kB mIx (kV (gS (gS gZ))) (kC (1 : Int))) kU0))) kNil) (kC (4 : Int))) (kCons (kCons (kF (fun x => (x.1, x.2.1)) (kPair (kC ([110, 111, 119, 104, 101, 114, 101] : List Nat)) (kPair (kB mIx (kV (gS (gS gZ))) (kC (0 : Int))) kU0))) kNil) (kCons (kCons (kF (fun x => (x.1, x.2.1)) (kPair (kB mIx (kV (gS (gS gZ))) (kC (0 : Int))) (kPair (kC ([110, 111, 119, 104, 101, 114, 101] : List Nat)) kU0))) kNil) kNil)))) (kCallL m__law_take gZ pZ (kPair (kC (4 : Int)) kU0))) (pS (pS (pS (pS (pS pZ)))))) kNx) (kSeq (kIf (kCmp mEq (kV (gS (gS (gS gZ)))) (kC (2 : Int))) (kSet (kCons (kF (fun x => (x.1, x.2.1)) (kPair (kC ([103, 111, 110, 101] : List Nat)) (kPair (kB mIx (kV (gS (gS gZ))) (kC (0 : Int))) kU0))) kNil) (pS (pS (pS (pS (pS pZ)))))) kNx) (kSeq (kIf (kCmp mEq (kV (gS (gS (gS gZ)))) (kC (3 : Int))) (kSet (kCons (kF (fun x => (x.1, x.2.1)) (kPair (kB mIx (kV (gS (gS gZ))) (kC (0 : Int))) (kPair (kB mIx (kV (gS (gS gZ))) (kC (1 : Int))) kU0))) (kCons (kF (fun x => (x.1, x.2.1)) (kPair (kB mIx (kV (gS (gS gZ))) (kC (0 : Int))) (kPair (kB mIx (kV (gS (gS gZ))) (kC (0 : Int))) kU0))) kNil)) (pS (pS (pS (pS (pS (pS pZ))))))) kNx) (kSeq (kIf (kCmp mEq (kV (gS (gS (gS gZ)))) (kC (4 : Int))) (kSet (kCons (kF (fun x => (x.1, x.2.1)) (kPair (kC ([110, 111, 119, 104, 101, 114, 101] : List Nat)) (kPair (kC ([103, 111, 110, 101] : List Nat)) kU0))) kNil) (pS (pS (pS (pS (pS (pS pZ))))))) kNx) (kSeq (kIf (kCmp mEq (kV (gS (gS (gS gZ)))) (kC (5 : Int))) (kSet (kB mIx (kCons (kB mRep (kCons (kB mIx (kV (gS (gS gZ))) (kC (0 : Int))) kNil) (kC (4 : Int))) (kCons (kCons (kC ([103, 111, 110, 101] : List Nat)) kNil) (kCons (kCons (kC ([110, 111, 119, 104, 101, 114, 101] : List Nat)) kNil) kNil))) (kCallL m__law_take gZ pZ (kPair (kC (3 : Int)) kU0))) (pS (pS (pS (pS (pS (pS (pS pZ)))))))) kNx) (kSeq (kIf (kCmp mEq (kV (gS (gS (gS gZ)))) (kC (6 : Int))) (kSet (kCons (kF (fun x => (x.1, x.2.1)) (kPair (kC ([108, 111, 99, 107] : List Nat)) (kPair (kC ([108, 111, 115, 116] : List Nat)) kU0))) kNil) (pS (pS (pS (pS (pS (pS (pS (pS pZ))))))))) kNx) (kSeq (kIf (kCmp mEq (kV (gS (gS (gS gZ)))) (kC (7 : Int))) (kSet (kCons (kF (fun x => (x.1, x.2.1)) (kPair (kC ([107, 101, 121] : List Nat)) (kPair (kC ([102, 114, 101, 101] : List Nat)) kU0))) kNil) (pS (pS (pS (pS (pS (pS (pS (pS (pS pZ)))))))))) kNx) (kSeq (kIf (kCmp mEq (kV (gS (gS (gS gZ)))) (kC (8 : Int))) (kSet (kCons (kF (fun x => (x.1, x.2.1)) (kPair (kC ([108, 111, 99, 107] : List Nat)) (kPair (kC ([102, 114, 101, 101] : List Nat)) kU0))) (kCons (kF (fun x => (x.1, x.2.1)) (kPair (kC ([108, 111, 99, 107] : List Nat)) (kPair (kC ([102, 114, 101, 101] : List Nat)) kU0))) kNil)) (pS (pS (pS (pS (pS (pS (pS (pS pZ))))))))) kNx) (kSeq (kIf (kCmp mEq (kV (gS (gS (gS gZ)))) (kC (9 : Int))) (kSet (kCons (kF (fun x => (x.1, x.2.1)) (kPair (kC ([98, 111, 120] : List Nat)) (kPair (kC ([112, 97, 110, 103] : List Nat)) kU0))) kNil) (pS (pS (pS (pS (pS (pS (pS (pS (pS (pS pZ))))))))))) kNx) (kSeq (kIf (kCmp mEq (kV (gS (gS (gS gZ)))) (kC (10 : Int))) (kSet (kCons (kF (fun x => (x.1, x.2.1)) (kPair (kC ([112, 111, 115, 116] : List Nat)) (kPair (kC ([112, 105, 110, 103] : List Nat)) kU0))) kNil) (pS (pS (pS (pS (pS (pS (pS (pS (pS (pS (pS pZ)))))))))))) kNx) (kSeq (kIf (kCmp mEq (kV (gS (gS (gS gZ)))) (kC (11 : Int))) (kSet (kCons (kF (fun x => (x.1, x.2.1)) (kPair (kC ([98, 111, 120] : List Nat)) (kPair (kC ([112, 105, 110, 103] : List Nat)) kU0))) (kCons (kF (fun x => (x.1, x.2.1)) (kPair (kC ([98, 111, 120] : List Nat)) (kPair (kC ([112, 105, 110, 103] : List Nat)) kU0))) kNil)) (pS (pS (pS (pS (pS (pS (pS (pS (pS (pS (pS pZ)))))))))))) kNx) (kRetL gZ (kPair (kV (gS (gS (gS (gS gZ))))) (kPair (kV (gS (gS (gS (gS (gS gZ)))))) (kPair (kV (gS (gS (gS (gS (gS (gS gZ))))))) (kPair (kV (gS (gS (gS (gS (gS (gS (gS gZ)))))))) (kPair (kV (gS (gS (gS (gS (gS (gS (gS (gS gZ))))))))) (kPair (kV (gS (gS (gS (gS (gS (gS (gS (gS (gS gZ)))))))))) (kPair (kV (gS (gS (gS (gS (gS (gS (gS (gS (gS (gS gZ))))))))))) (kPair (kV (gS (gS (gS (gS (gS (gS (gS (gS (gS (gS (gS gZ)))))))))))) kU0))))))))))))))))))))))) (iS (iS (iS (iZ (0, [], [], [], [], [], [], [], [], ()))))) (fun _ => .bad)
abbrev s__law_spoilt_rule : Stmt := (topS 31)
theorem sc__law_spoilt_rule : FnScope ["_law_draws_here", "_law_rule_here", "_law_states", "_law_kind", "_law_name", "_law_actors", "_law_everyone", "_law_born", "_law_conditions", "_law_effects", "_law_hears", "_law_sends"] ["_law_draws_here", "_law_rule_here", "_law_states"] (defScope s__law_spoilt_rule) := ⟨rfl, rfl, rfl, by decide +kernel, rfl, by decide +kernel, by decide +kernel⟩
theorem ok__law_spoilt_rule {f : Addr} {fd : FuncData} (D : DefAt K mg "_law_spoilt_rule" s__law_spoilt_rule ["_law_draws_here", "_law_rule_here", "_law_states"] f fd) (U : Uses K mg) {f__law_take : Addr} {fd__law_take : FuncData} (D__law_take : DefAt K mg "_law_take" s__law_take ["_law_draws_here", "_law_limit"] f__law_take fd__law_take) (G__law_take : FnOk P w K mg base (L2.CX P w) 1 f__law_take fd__law_take ["_law_draws_here", "_law_limit"] (spL (XRm mg) tInt (acons (fz tInt) anil) (fz tInt) m__law_take)) : FnOk P w K mg base (L2.CX P w) 2 f fd ["_law_draws_here", "_law_rule_here", "_law_states"] (spL (XRm mg) tInt (acons (fz (tH (hcons tTxt (hcons (tLst (tP2 tTxt tTxt)) (hcons (tLst (tP2 tTxt tTxt)) (hcons (tLst tTxt) (hcons (tLst (tP2 tTxt tTxt)) (hcons (tLst (tP2 tTxt tTxt)) (hcons (tLst (tP2 tTxt tTxt)) (hcons (tLst (tP2 tTxt tTxt)) hnil)))))))))) (acons (fz (tLst tTxt)) anil)) (fz (tH (hcons tTxt (hcons (tLst (tP2 tTxt tTxt)) (hcons (tLst (tP2 tTxt tTxt)) (hcons (tLst tTxt) (hcons (tLst (tP2 tTxt tTxt)) (hcons (tLst (tP2 tTxt tTxt)) (hcons (tLst (tP2 tTxt tTxt)) (hcons (tLst (tP2 tTxt tTxt)) hnil)))))))))) m__law_spoilt_rule) :=
  fn_okK (G1 := fun _ => gnil) D.F sc__law_spoilt_rule rfl rfl (fun ad => (st_cons (st_cons (st_cons (st_nil (any_cons (any_cons (any_cons (any_cons (any_cons (any_cons (any_cons (any_cons (any_cons any_nil)))))))))))))) (fun ad => fall_bad) (fun ad cdv A outer s H E hr =>
    (ss_cons (sm_set sc__law_spoilt_rule.nd rfl (.inl rfl) (At.s (At.s (At.s At.z))) (em_callL (takes_of rfl rfl rfl rfl) G__law_take (hr.mono (by decide)) (by rfl) D__law_take.g D__law_take.F.kp D__law_take.b rfl (.inl rfl) At.z (am_cons em_int am_nil)) (hf := .inl rfl)) (ss_cons (sm_unpack (R := fz (tH (hcons tTxt (hcons (tLst (tP2 tTxt tTxt)) (hcons (tLst (tP2 tTxt tTxt)) (hcons (tLst tTxt) (hcons (tLst (tP2 tTxt tTxt)) (hcons (tLst (tP2 tTxt tTxt)) (hcons (tLst (tP2 tTxt tTxt)) (hcons (tLst (tP2 tTxt tTxt)) hnil)))))))))) (tgt_H rfl (tgs_cons (tgt_name sc__law_spoilt_rule.nd rfl (.inl rfl) (At.s (At.s (At.s (At.s At.z)))) (.inl rfl)) (tgs_cons (tgt_name sc__law_spoilt_rule.nd rfl (.inl rfl) (At.s (At.s (At.s (At.s (At.s At.z))))) (.inl rfl)) (tgs_cons (tgt_name sc__law_spoilt_rule.nd rfl (.inl rfl) (At.s (At.s (At.s (At.s (At.s (At.s At.z)))))) (.inl rfl)) (tgs_cons (tgt_name sc__law_spoilt_rule.nd rfl (.inl rfl) (At.s (At.s (At.s (At.s (At.s (At.s (At.s At.z))))))) (.inl rfl)) (tgs_cons (tgt_name sc__law_spoilt_rule.nd rfl (.inl rfl) (At.s (At.s (At.s (At.s (At.s (At.s (At.s (At.s At.z)))))))) (.inl rfl)) (tgs_cons (tgt_name sc__law_spoilt_rule.nd rfl (.inl rfl) (At.s (At.s (At.s (At.s (At.s (At.s (At.s (At.s (At.s At.z))))))))) (.inl rfl)) (tgs_cons (tgt_name sc__law_spoilt_rule.nd rfl (.inl rfl) (At.s (At.s (At.s (At.s (At.s (At.s (At.s (At.s (At.s (At.s At.z)))))))))) (.inl rfl)) (tgs_cons (tgt_name sc__law_spoilt_rule.nd rfl (.inl rfl) (At.s (At.s (At.s (At.s (At.s (At.s (At.s (At.s (At.s (At.s (At.s At.z))))))))))) (.inl rfl)) tgs_nil)))))))) rfl (fun _ h => pg_tup rfl h)) (em_var rfl (.inl rfl) (At.s At.z)) (fun _ _ h h2 => ps_asg h h2)) (ss_cons (sm_if (tm_c (cm_eqS scInt) (nomark _) (em_var rfl (.inl rfl) (At.s (At.s (At.s At.z)))) em_int) (ss_one (sm_set sc__law_spoilt_rule.nd rfl (.inl rfl) (At.s (At.s (At.s (At.s At.z)))) (em_ixL (fun _ _ => rfl) (em_freeze (em_lstN (am_hcons (em_txt (x := ([] : List Nat)) (by decide +kernel) (by decide)) (am_hcons (em_txt (x := ([82, 117, 108, 101] : List Nat)) (by decide +kernel) (by decide)) (am_hcons (em_txt (x := ([105, 102] : List Nat)) (by decide +kernel) (by decide)) (am_hcons (em_txt (x := ([57, 97] : List Nat)) (by decide +kernel) (by decide)) (am_hcons (em_txt (x := ([103, 111, 110, 101] : List Nat)) (by decide +kernel) (by decide)) (am_hcons (em_txt (x := ([97, 95, 98] : List Nat)) (by decide +kernel) (by decide)) (am_hnil (T := tTxt)))))))) (ln_cons (ln_cons (ln_cons (ln_cons (ln_cons (ln_cons ln_nil)))))) (by decide))) (em_callL (takes_of rfl rfl rfl rfl) G__law_take (hr.mono (by decide)) (by rfl) D__law_take.g D__law_take.F.kp D__law_take.b rfl (.inl rfl) At.z (am_cons em_int am_nil))) (hf := .inl rfl))) (ss_nilI MvI.refl)) (ss_cons (sm_if (tm_c (cm_eqS scInt) (nomark _) (em_var rfl (.inl rfl) (At.s (At.s (At.s At.z)))) em_int) (ss_one (sm_set sc__law_spoilt_rule.nd rfl (.inl rfl) (At.s (At.s (At.s (At.s (At.s At.z))))) (em_ixL (fun _ _ => rfl) (em_freeze (em_lstN (am_hcons (em_freeze (em_lstN (am_hnil (T := (tP2 tTxt tTxt))) ln_nil (by decide))) (am_hcons (em_freeze (em_repL (em_freeze (em_lstN (am_hcons (em_tup2 (am_cons (em_ixL (fun _ _ => rfl) (em_var rfl (.inl rfl) (At.s (At.s At.z))) em_int) (am_cons (em_ixL (fun _ _ => rfl) (em_var rfl (.inl rfl) (At.s (At.s At.z))) em_int) am_nil))) (am_hnil (T := (tP2 tTxt tTxt)))) (ln_cons ln_nil) (by decide))) em_int)) (am_hcons (em_freeze (em_lstN (am_hcons (em_tup2 (am_cons (em_txt (x := ([110, 111, 119, 104, 101, 114, 101] : List Nat)) (by decide +kernel) (by decide)) (am_cons (em_ixL (fun _ _ => rfl) (em_var rfl (.inl rfl) (At.s (At.s At.z))) em_int) am_nil))) (am_hnil (T := (tP2 tTxt tTxt)))) (ln_cons ln_nil) (by decide))) (am_hcons (em_freeze (em_lstN (am_hcons (em_tup2 (am_cons (em_ixL (fun _ _ => rfl) (em_var rfl (.inl rfl) (At.s (At.s At.z))) em_int) (am_cons (em_txt (x := ([110, 111, 119, 104, 101, 114, 101] : List Nat)) (by decide +kernel) (by decide)) am_nil))) (am_hnil (T := (tP2 tTxt tTxt)))) (ln_cons ln_nil) (by decide))) (am_hnil (T := (tLst (tP2 tTxt tTxt)))))))) (ln_cons (ln_cons (ln_cons (ln_cons ln_nil)))) (by decide))) (em_callL (takes_of rfl rfl rfl rfl) G__law_take (hr.mono (by decide)) (by rfl) D__law_take.g D__law_take.F.kp D__law_take.b rfl (.inl rfl) At.z (am_cons em_int am_nil))) (hf := .inl rfl))) (ss_nilI MvI.refl)) (ss_cons (sm_if (tm_c (cm_eqS scInt) (nomark _) (em_var rfl (.inl rfl) (At.s (At.s (At.s At.z)))) em_int) (ss_one (sm_set sc__law_spoilt_rule.nd rfl (.inl rfl) (At.s (At.s (At.s (At.s (At.s At.z))))) (em_freeze (em_lstN (am_hcons (em_tup2 (am_cons (em_txt (x := ([103, 111, 110, 101] : List Nat)) (by decide +kernel) (by decide)) (am_cons (em_ixL (fun _ _ => rfl) (em_var rfl (.inl rfl) (At.s (At.s At.z))) em_int) am_nil))) (am_hnil (T := (tP2 tTxt tTxt)))) (ln_cons ln_nil) (by decide))) (hf := .inl rfl))) (ss_nilI MvI.refl)) (ss_cons (sm_if (tm_c (cm_eqS scInt) (nomark _) (em_var rfl (.inl rfl) (At.s (At.s (At.s At.z)))) em_int) (ss_one (sm_set sc__law_spoilt_rule.nd rfl (.inl rfl) (At.s (At.s (At.s (At.s (At.s (At.s At.z)))))) (em_freeze (em_lstN (am_hcons (em_tup2 (am_cons (em_ixL (fun _ _ => rfl) (em_var rfl (.inl rfl) (At.s (At.s At.z))) em_int) (am_cons (em_ixL (fun _ _ => rfl) (em_var rfl (.inl rfl) (At.s (At.s At.z))) em_int) am_nil))) (am_hcons (em_tup2 (am_cons (em_ixL (fun _ _ => rfl) (em_var rfl (.inl rfl) (At.s (At.s At.z))) em_int) (am_cons (em_ixL (fun _ _ => rfl) (em_var rfl (.inl rfl) (At.s (At.s At.z))) em_int) am_nil))) (am_hnil (T := (tP2 tTxt tTxt))))) (ln_cons (ln_cons ln_nil)) (by decide))) (hf := .inl rfl))) (ss_nilI MvI.refl)) (ss_cons (sm_if (tm_c (cm_eqS scInt) (nomark _) (em_var rfl (.inl rfl) (At.s (At.s (At.s At.z)))) em_int) (ss_one (sm_set sc__law_spoilt_rule.nd rfl (.inl rfl) (At.s (At.s (At.s (At.s (At.s (At.s At.z)))))) (em_freeze (em_lstN (am_hcons (em_tup2 (am_cons (em_txt (x := ([110, 111, 119, 104, 101, 114, 101] : List Nat)) (by decide +kernel) (by decide)) (am_cons (em_txt (x := ([103, 111, 110, 101] : List Nat)) (by decide +kernel) (by decide)) am_nil))) (am_hnil (T := (tP2 tTxt tTxt)))) (ln_cons ln_nil) (by decide))) (hf := .inl rfl))) (ss_nilI MvI.refl)) (ss_cons (sm_if (tm_c (cm_eqS scInt) (nomark _) (em_var rfl (.inl rfl) (At.s (At.s (At.s At.z)))) em_int) (ss_one (sm_set sc__law_spoilt_rule.nd rfl (.inl rfl) (At.s (At.s (At.s (At.s (At.s (At.s (At.s At.z))))))) (em_ixL (fun _ _ => rfl) (em_freeze (em_lstN (am_hcons (em_freeze (em_repL (em_freeze (em_lstN (am_hcons (em_ixL (fun _ _ => rfl) (em_var rfl (.inl rfl) (At.s (At.s At.z))) em_int) (am_hnil (T := tTxt))) (ln_cons ln_nil) (by decide))) em_int)) (am_hcons (em_freeze (em_lstN (am_hcons (em_txt (x := ([103, 111, 110, 101] : List Nat)) (by decide +kernel) (by decide)) (am_hnil (T := tTxt))) (ln_cons ln_nil) (by decide))) (am_hcons (em_freeze (em_lstN (am_hcons (em_txt (x := ([110, 111, 119, 104, 101, 114, 101] : List Nat)) (by decide +kernel) (by decide)) (am_hnil (T := tTxt))) (ln_cons ln_nil) (by decide))) (am_hnil (T := (tLst tTxt)))))) (ln_cons (ln_cons (ln_cons ln_nil))) (by decide))) (em_callL (takes_of rfl rfl rfl rfl) G__law_take (hr.mono (by decide)) (by rfl) D__law_take.g D__law_take.F.kp D__law_take.b rfl (.inl rfl) At.z (am_cons em_int am_nil))) (hf := .inl rfl))) (ss_nilI MvI.refl)) (ss_cons (sm_if (tm_c (cm_eqS scInt) (nomark _) (em_var rfl (.inl rfl) (At.s (At.s (At.s At.z)))) em_int) (ss_one (sm_set sc__law_spoilt_rule.nd rfl (.inl rfl) (At.s (At.s (At.s (At.s (At.s (At.s (At.s (At.s At.z)))))))) (em_freeze (em_lstN (am_hcons (em_tup2 (am_cons (em_txt (x := ([108, 111, 99, 107] : List Nat)) (by decide +kernel) (by decide)) (am_cons (em_txt (x := ([108, 111, 115, 116] : List Nat)) (by decide +kernel) (by decide)) am_nil))) (am_hnil (T := (tP2 tTxt tTxt)))) (ln_cons ln_nil) (by decide))) (hf := .inl rfl))) (ss_nilI MvI.refl)) (ss_cons (sm_if (tm_c (cm_eqS scInt) (nomark _) (em_var rfl (.inl rfl) (At.s (At.s (At.s At.z)))) em_int) (ss_one (sm_set sc__law_spoilt_rule.nd rfl (.inl rfl) (At.s (At.s (At.s (At.s (At.s (At.s (At.s (At.s (At.s At.z))))))))) (em_freeze (em_lstN (am_hcons (em_tup2 (am_cons (em_txt (x := ([107, 101, 121] : List Nat)) (by decide +kernel) (by decide)) (am_cons (em_txt (x := ([102, 114, 101, 101] : List Nat)) (by decide +kernel) (by decide)) am_nil))) (am_hnil (T := (tP2 tTxt tTxt)))) (ln_cons ln_nil) (by decide))) (hf := .inl rfl))) (ss_nilI MvI.refl)) (ss_cons (sm_if (tm_c (cm_eqS scInt) (nomark _) (em_var rfl (.inl rfl) (At.s (At.s (At.s At.z)))) em_int) (ss_one (sm_set sc__law_spoilt_rule.nd rfl (.inl rfl) (At.s (At.s (At.s (At.s (At.s (At.s (At.s (At.s At.z)))))))) (em_freeze (em_lstN (am_hcons (em_tup2 (am_cons (em_txt (x := ([108, 111, 99, 107] : List Nat)) (by decide +kernel) (by decide)) (am_cons (em_txt (x := ([102, 114, 101, 101] : List Nat)) (by decide +kernel) (by decide)) am_nil))) (am_hcons (em_tup2 (am_cons (em_txt (x := ([108, 111, 99, 107] : List Nat)) (by decide +kernel) (by decide)) (am_cons (em_txt (x := ([102, 114, 101, 101] : List Nat)) (by decide +kernel) (by decide)) am_nil))) (am_hnil (T := (tP2 tTxt tTxt))))) (ln_cons (ln_cons ln_nil)) (by decide))) (hf := .inl rfl))) (ss_nilI MvI.refl)) (ss_cons (sm_if (tm_c (cm_eqS scInt) (nomark _) (em_var rfl (.inl rfl) (At.s (At.s (At.s At.z)))) em_int) (ss_one (sm_set sc__law_spoilt_rule.nd rfl (.inl rfl) (At.s (At.s (At.s (At.s (At.s (At.s (At.s (At.s (At.s (At.s At.z)))))))))) (em_freeze (em_lstN (am_hcons (em_tup2 (am_cons (em_txt (x := ([98, 111, 120] : List Nat)) (by decide +kernel) (by decide)) (am_cons (em_txt (x := ([112, 97, 110, 103] : List Nat)) (by decide +kernel) (by decide)) am_nil))) (am_hnil (T := (tP2 tTxt tTxt)))) (ln_cons ln_nil) (by decide))) (hf := .inl rfl))) (ss_nilI MvI.refl)) (ss_cons (sm_if (tm_c (cm_eqS scInt) (nomark _) (em_var rfl (.inl rfl) (At.s (At.s (At.s At.z)))) em_int) (ss_one (sm_set sc__law_spoilt_rule.nd rfl (.inl rfl) (At.s (At.s (At.s (At.s (At.s (At.s (At.s (At.s (At.s (At.s (At.s At.z))))))))))) (em_freeze (em_lstN (am_hcons (em_tup2 (am_cons (em_txt (x := ([112, 111, 115, 116] : List Nat)) (by decide +kernel) (by decide)) (am_cons (em_txt (x := ([112, 105, 110, 103] : List Nat)) (by decide +kernel) (by decide)) am_nil))) (am_hnil (T := (tP2 tTxt tTxt)))) (ln_cons ln_nil) (by decide))) (hf := .inl rfl))) (ss_nilI MvI.refl)) (ss_cons (sm_if (tm_c (cm_eqS scInt) (nomark _) (em_var rfl (.inl rfl) (At.s (At.s (At.s At.z)))) em_int) (ss_one (sm_set sc__law_spoilt_rule.nd rfl (.inl rfl) (At.s (At.s (At.s (At.s (At.s (At.s (At.s (At.s (At.s (At.s (At.s At.z))))))))))) (em_freeze (em_lstN (am_hcons (em_tup2 (am_cons (em_txt (x := ([98, 111, 120] : List Nat)) (by decide +kernel) (by decide)) (am_cons (em_txt (x := ([112, 105, 110, 103] : List Nat)) (by decide +kernel) (by decide)) am_nil))) (am_hcons (em_tup2 (am_cons (em_txt (x := ([98, 111, 120] : List Nat)) (by decide +kernel) (by decide)) (am_cons (em_txt (x := ([112, 105, 110, 103] : List Nat)) (by decide +kernel) (by decide)) am_nil))) (am_hnil (T := (tP2 tTxt tTxt))))) (ln_cons (ln_cons ln_nil)) (by decide))) (hf := .inl rfl))) (ss_nilI MvI.refl)) (ss_one (sm_retL At.z (em_tupH (am_Hcons (em_var rfl (.inl rfl) (At.s (At.s (At.s (At.s At.z))))) (am_Hcons (em_var rfl (.inl rfl) (At.s (At.s (At.s (At.s (At.s At.z)))))) (am_Hcons (em_var rfl (.inl rfl) (At.s (At.s (At.s (At.s (At.s (At.s At.z))))))) (am_Hcons (em_var rfl (.inl rfl) (At.s (At.s (At.s (At.s (At.s (At.s (At.s At.z)))))))) (am_Hcons (em_var rfl (.inl rfl) (At.s (At.s (At.s (At.s (At.s (At.s (At.s (At.s At.z))))))))) (am_Hcons (em_var rfl (.inl rfl) (At.s (At.s (At.s (At.s (At.s (At.s (At.s (At.s (At.s At.z)))))))))) (am_Hcons (em_var rfl (.inl rfl) (At.s (At.s (At.s (At.s (At.s (At.s (At.s (At.s (At.s (At.s At.z))))))))))) (am_Hcons (em_var rfl (.inl rfl) (At.s (At.s (At.s (At.s (At.s (At.s (At.s (At.s (At.s (At.s (At.s At.z)))))))))))) am_Hnil))))))))))))))))))))))))))
/-! ### _law_spoilt_pattern -/
noncomputable def m__law_spoilt_pattern : (List Int) × (List (List Nat)) × Unit → Res (((List ((List Nat) × Int)) × (List ((List Nat) × (List Nat)))) × List Int) := kRun (S := (List Int) × (List (List Nat)) × (List ((List ((List Nat) × Int)) × (List ((List Nat) × (List Nat))))) × Unit) (S' := Unit) (L := Unit) (kSeq (kSet (kCons (kF (fun x => (x.1, x.2.1)) (kPair (kNil (α := ((List Nat) × Int))) (kPair (kNil (α := ((List Nat) × (List Nat)))) kU0))) (kCons (kF (fun x => (x.1, x.2.1)) (kPair (kCons (kF (fun x => (x.1, x.2.1)) (kPair (kB mIx (kV (gS gZ)) (kC (0 : Int))) (kPair (kC (0 : Int)) kU0))) kNil) (kPair (kNil (α := ((List Nat) × (List Nat)))) kU0))) (kCons (kF (fun x => (x.1, x.2.1)) (kPair (kCons (kF (fun x => (x.1, x.2.1)) (kPair (kB mIx (kV (gS gZ)) (kC (0 : Int))) (kPair (kC (10 : Int)) kU0))) kNil) (kPair (kNil (α := ((List Nat) × (List Nat)))) kU0))) (kCons (kF (fun x => (x.1, x.2.1)) (kPair (kCons (kF (fun x => (x.1, x.2.1)) (kPair (kC ([110, 111, 119, 104, 101, 114, 101] : List Nat)) (kPair (kC (1 : Int)) kU0))) kNil) (kPair (kNil (α := ((List Nat) × (List Nat)))) kU0))) (kCons (kF (fun x => (x.1, x.2.1)) (kPair (kNil (α := ((List Nat) × Int))) (kPair (kCons (kF (fun x => (x.1, x.2.1)) (kPair (kC ([108, 111, 99, 107] : List Nat)) (kPair (kC ([108, 111, 115, 116] : List Nat)) kU0))) kNil) kU0))) kNil))))) (pS (pS pZ))) (kSeq (kSet (kB mCat (kV (gS (gS gZ))) (kCons (kF (fun x => (x.1, x.2.1)) (kPair (kCons (kF (fun x => (x.1, x.2.1)) (kPair (kB mIx (kV (gS gZ)) (kC (0 : Int))) (kPair (kC (1 : Int)) kU0))) (kCons (kF (fun x => (x.1, x.2.1)) (kPair (kB mIx (kV (gS gZ)) (kC (0 : Int))) (kPair (kC (2 : Int)) kU0))) kNil)) (kPair (kNil (α := ((List Nat) × (List Nat)))) kU0))) (kCons (kF (fun x => (x.1, x.2.1)) (kPair (kCons (kF (fun x => (x.1, x.2.1)) (kPair (kB mIx (kV (gS gZ)) (kC (0 : Int))) (kPair (kC (1 : Int)) kU0))) kNil) (kPair (kCons (kF (fun x => (x.1, x.2.1)) (kPair (kC ([108, 111, 99, 107] : List Nat)) (kPair (kC ([102, 114, 101, 101] : List Nat)) kU0))) (kCons (kF (fun x => (x.1, x.2.1)) (kPair (kC ([108, 111, 99, 107] : List Nat)) (kPair (kC ([102, 114, 101, 101] : List Nat)) kU0))) kNil)) kU0))) kNil))) (pS (pS pZ))) (kRetL gZ (kB mIx (kV (gS (gS gZ))) (kCallL m__law_take gZ pZ (kPair (kC (7 : Int)) kU0)))))) (iS (iS (iZ ([], ())))) (fun _ => .bad)
abbrev s__law_spoilt_pattern : Stmt := (topS 32)
theorem sc__law_spoilt_pattern : FnScope ["_law_draws_here", "_law_states", "_law_bad"] ["_law_draws_here", "_law_states"] (defScope s__law_spoilt_pattern) := ⟨rfl, rfl, rfl, by decide +kernel, rfl, by decide +kernel, by decide +kernel⟩
theorem ok__law_spoilt_pattern {f : Addr} {fd : FuncData} (D : DefAt K mg "_law_spoilt_pattern" s__law_spoilt_pattern ["_law_draws_here", "_law_states"] f fd) (U : Uses K mg) {f__law_take : Addr} {fd__law_take : FuncData} (D__law_take : DefAt K mg "_law_take" s__law_take ["_law_draws_here", "_law_limit"] f__law_take fd__law_take) (G__law_take : FnOk P w K mg base (L2.CX P w) 1 f__law_take fd__law_take ["_law_draws_here", "_law_limit"] (spL (XRm mg) tInt (acons (fz tInt) anil) (fz tInt) m__law_take)) : FnOk P w K mg base (L2.CX P w) 2 f fd ["_law_draws_here", "_law_states"] (spL (XRm mg) tInt (acons (fz (tLst tTxt)) anil) (fz (tP2 (tLst (tP2 tTxt tInt)) (tLst (tP2 tTxt tTxt)))) m__law_spoilt_pattern) :=
  fn_okK (G1 := fun _ => gnil) D.F sc__law_spoilt_pattern rfl rfl (fun ad => (st_cons (st_cons (st_nil (any_cons any_nil))))) (fun ad => fall_bad) (fun ad cdv A outer s H E hr =>
    (ss_cons (sm_set sc__law_spoilt_pattern.nd rfl (.inl rfl) (At.s (At.s At.z)) (em_freeze (em_lstN (am_hcons (em_tup2 (am_cons (em_freeze (em_lstN (am_hnil (T := (tP2 tTxt tInt))) ln_nil (by decide))) (am_cons (em_freeze (em_lstN (am_hnil (T := (tP2 tTxt tTxt))) ln_nil (by decide))) am_nil))) (am_hcons (em_tup2 (am_cons (em_freeze (em_lstN (am_hcons (em_tup2 (am_cons (em_ixL (fun _ _ => rfl) (em_var rfl (.inl rfl) (At.s At.z)) em_int) (am_cons em_int am_nil))) (am_hnil (T := (tP2 tTxt tInt)))) (ln_cons ln_nil) (by decide))) (am_cons (em_freeze (em_lstN (am_hnil (T := (tP2 tTxt tTxt))) ln_nil (by decide))) am_nil))) (am_hcons (em_tup2 (am_cons (em_freeze (em_lstN (am_hcons (em_tup2 (am_cons (em_ixL (fun _ _ => rfl) (em_var rfl (.inl rfl) (At.s At.z)) em_int) (am_cons em_int am_nil))) (am_hnil (T := (tP2 tTxt tInt)))) (ln_cons ln_nil) (by decide))) (am_cons (em_freeze (em_lstN (am_hnil (T := (tP2 tTxt tTxt))) ln_nil (by decide))) am_nil))) (am_hcons (em_tup2 (am_cons (em_freeze (em_lstN (am_hcons (em_tup2 (am_cons (em_txt (x := ([110, 111, 119, 104, 101, 114, 101] : List Nat)) (by decide +kernel) (by decide)) (am_cons em_int am_nil))) (am_hnil (T := (tP2 tTxt tInt)))) (ln_cons ln_nil) (by decide))) (am_cons (em_freeze (em_lstN (am_hnil (T := (tP2 tTxt tTxt))) ln_nil (by decide))) am_nil))) (am_hcons (em_tup2 (am_cons (em_freeze (em_lstN (am_hnil (T := (tP2 tTxt tInt))) ln_nil (by decide))) (am_cons (em_freeze (em_lstN (am_hcons (em_tup2 (am_cons (em_txt (x := ([108, 111, 99, 107] : List Nat)) (by decide +kernel) (by decide)) (am_cons (em_txt (x := ([108, 111, 115, 116] : List Nat)) (by decide +kernel) (by decide)) am_nil))) (am_hnil (T := (tP2 tTxt tTxt)))) (ln_cons ln_nil) (by decide))) am_nil))) (am_hnil (T := (tP2 (tLst (tP2 tTxt tInt)) (tLst (tP2 tTxt tTxt)))))))))) (ln_cons (ln_cons (ln_cons (ln_cons (ln_cons ln_nil))))) (by decide))) (hf := .inl rfl)) (ss_cons (sm_set sc__law_spoilt_pattern.nd rfl (.inl rfl) (At.s (At.s At.z)) (em_freeze (em_catL (em_var rfl (.inl rfl) (At.s (At.s At.z))) (em_freeze (em_lstN (am_hcons (em_tup2 (am_cons (em_freeze (em_lstN (am_hcons (em_tup2 (am_cons (em_ixL (fun _ _ => rfl) (em_var rfl (.inl rfl) (At.s At.z)) em_int) (am_cons em_int am_nil))) (am_hcons (em_tup2 (am_cons (em_ixL (fun _ _ => rfl) (em_var rfl (.inl rfl) (At.s At.z)) em_int) (am_cons em_int am_nil))) (am_hnil (T := (tP2 tTxt tInt))))) (ln_cons (ln_cons ln_nil)) (by decide))) (am_cons (em_freeze (em_lstN (am_hnil (T := (tP2 tTxt tTxt))) ln_nil (by decide))) am_nil))) (am_hcons (em_tup2 (am_cons (em_freeze (em_lstN (am_hcons (em_tup2 (am_cons (em_ixL (fun _ _ => rfl) (em_var rfl (.inl rfl) (At.s At.z)) em_int) (am_cons em_int am_nil))) (am_hnil (T := (tP2 tTxt tInt)))) (ln_cons ln_nil) (by decide))) (am_cons (em_freeze (em_lstN (am_hcons (em_tup2 (am_cons (em_txt (x := ([108, 111, 99, 107] : List Nat)) (by decide +kernel) (by decide)) (am_cons (em_txt (x := ([102, 114, 101, 101] : List Nat)) (by decide +kernel) (by decide)) am_nil))) (am_hcons (em_tup2 (am_cons (em_txt (x := ([108, 111, 99, 107] : List Nat)) (by decide +kernel) (by decide)) (am_cons (em_txt (x := ([102, 114, 101, 101] : List Nat)) (by decide +kernel) (by decide)) am_nil))) (am_hnil (T := (tP2 tTxt tTxt))))) (ln_cons (ln_cons ln_nil)) (by decide))) am_nil))) (am_hnil (T := (tP2 (tLst (tP2 tTxt tInt)) (tLst (tP2 tTxt tTxt))))))) (ln_cons (ln_cons ln_nil)) (by decide))))) (hf := .inl rfl)) (ss_one (sm_retL At.z (em_ixL (fun _ _ => rfl) (em_var rfl (.inl rfl) (At.s (At.s At.z))) (em_callL (takes_of rfl rfl rfl rfl) G__law_take (hr.mono (by decide)) (by rfl) D__law_take.g D__law_take.F.kp D__law_take.b rfl (.inl rfl) At.z (am_cons em_int am_nil))))))))
/-! ### _law_spoilt -/
noncomputable def m__law_spoilt : (List Int) × ((List (List Nat)) × (List Nat) × (List ((List Nat) × (List (List Nat)))) × (List ((List Nat) × (List (List Nat)))) × (List ((List Nat) × (List ((List Nat) × (List Nat))) × (List ((List Nat) × (List Nat))) × (List (List Nat)) × (List ((List Nat) × (List Nat))) × (List ((List Nat) × (List Nat))) × (List ((List Nat) × (List Nat))) × (List ((List Nat) × (List Nat))) × Unit)) × (List ((List ((List Nat) × Int)) × (List ((List Nat) × (List Nat))))) × Unit) × Unit → Res (((List (List Nat)) × (List Nat) × (List ((List Nat) × (List (List Nat)))) × (List ((List Nat) × (List (List Nat)))) × (List ((List Nat) × (List ((List Nat) × (List Nat))) × (List ((List Nat) × (List Nat))) × (List (List Nat)) × (List ((List Nat) × (List Nat))) × (List ((List Nat) × (List Nat))) × (List ((List Nat) × (List Nat))) × (List ((List Nat) × (List Nat))) × Unit)) × (List ((List ((List Nat) × Int)) × (List ((List Nat) × (List Nat))))) × Unit) × List Int) := kRun (S := (List Int) × ((List (List Nat)) × (List Nat) × (List ((List Nat) × (List (List Nat)))) × (List ((List Nat) × (List (List Nat)))) × (List ((List Nat) × (List ((List Nat) × (List Nat))) × (List ((List Nat) × (List Nat))) × (List (List Nat)) × (List ((List Nat) × (List Nat))) × (List ((List Nat) × (List Nat))) × (List ((List Nat) × (List Nat))) × (List ((List Nat) × (List Nat))) × Unit)) × (List ((List ((List Nat) × Int)) × (List ((List Nat) × (List Nat))))) × Unit) × Int × (List (List Nat)) × (List Nat) × (List ((List Nat) × (List (List Nat)))) × (List ((List Nat) × (List (List Nat)))) × (List ((List Nat) × (List ((List Nat) × (List Nat))) × (List ((List Nat) × (List Nat))) × (List (List Nat)) × (List ((List Nat) × (List Nat))) × (List ((List Nat) × (List Nat))) × (List ((List Nat) × (List Nat))) × (List ((List Nat) × (List Nat))) × Unit)) × (List ((List ((List Nat) × Int)) × (List ((List Nat) × (List Nat))))) × (List ((List Nat) × (List (List Nat)))) × Int × Int × Unit) (S' := Unit) (L := Unit) (kSeq (kSet (kV (gS gZ)) (pP (pS (pS (pS pZ))) (pP (pS (pS (pS (pS pZ)))) (pP (pS (pS (pS (pS (pS pZ))))) (pP (pS (pS (pS (pS (pS (pS pZ)))))) (pP (pS (pS (pS (pS (pS (pS (pS pZ))))))) (pP (pS (pS (pS (pS (pS (pS (pS (pS pZ)))))))) pN))))))) (kSeq (kSet (kCallL m__law_take gZ pZ (kPair (kC (12 : Int)) kU0)) (pS (pS pZ))) (kSeq (kIf (kCmp mEq (kV (gS (gS gZ))) (kC (0 : Int))) (kSet (kB mIx (kCons (kB mCat (kV (gS (gS (gS gZ)))) (kCut (kV (gS (gS (gS gZ)))) (kC none) (kF some (kC (1 : Int))))) (kCons (kNil (α := (List Nat))) (kCons (kB mCat (kV (gS (gS (gS gZ)))) (kCons (kC ([97, 108, 108] : List Nat)) kNil)) (kCons (kCons (kC ([97, 49] : List Nat)) (kCons (kC ([98, 49] : List Nat)) (kCons (kC ([99, 49] : List Nat)) (kCons (kC ([100, 49] : List Nat)) (kCons (kC ([101, 49] : List Nat)) (kCons (kC ([102, 49] : List Nat)) (kCons (kC ([103, 49] : List Nat)) kNil))))))) kNil)))) (kCallL m__law_take gZ pZ (kPair (kC (4 : Int)) kU0))) (pS (pS (pS pZ)))) kNx) (kSeq (kIf (kCmp mEq (kV (gS (gS gZ))) (kC (1 : Int))) (kSet (kB mIx (kCons (kC ([110, 111, 119, 104, 101, 114, 101] : List Nat)) (kCons (kC ([] : List Nat)) (kCons (kC ([103, 111, 110, 101] : List Nat)) kNil))) (kCallL m__law_take gZ pZ (kPair (kC (3 : Int)) kU0))) (pS (pS (pS (pS pZ))))) kNx) (kSeq (kIf (kCmp mEq (kV (gS (gS gZ))) (kC (2 : Int))) (kSeq (kSet (kCons (kF (fun x => (x.1, x.2.1)) (kPair (kC ([108, 111, 99, 107] : List Nat)) (kPair (kCons (kC ([102, 114, 101, 101] : List Nat)) kNil) kU0))) (kCons (kF (fun x => (x.1, x.2.1)) (kPair (kC ([108, 111, 99, 107] : List Nat)) (kPair (kCons (kC ([97] : List Nat)) (kCons (kC ([98] : List Nat)) (kCons (kC ([99] : List Nat)) (kCons (kC ([100] : List Nat)) kNil)))) kU0))) (kCons (kF (fun x => (x.1, x.2.1)) (kPair (kC ([108, 111, 99, 107] : List Nat)) (kPair (kCons (kC ([97] : List Nat)) (kCons (kC ([97] : List Nat)) kNil)) kU0))) (kCons (kF (fun x => (x.1, x.2.1)) (kPair (kC ([115, 101, 116] : List Nat)) (kPair (kCons (kC ([97] : List Nat)) (kCons (kC ([98] : List Nat)) kNil)) kU0))) (kCons (kF (fun x => (x.1, x.2.1)) (kPair (kB mIx (kV (gS (gS (gS gZ)))) (kC (0 : Int))) (kPair (kCons (kC ([97] : List Nat)) (kCons (kC ([98] : List Nat)) kNil)) kU0))) kNil))))) (pS (pS (pS (pS (pS (pS (pS (pS (pS pZ)))))))))) (kSeq (kSet (kCons (kB mIx (kV (gS (gS (gS (gS (gS (gS (gS (gS (gS gZ)))))))))) (kCallL m__law_take gZ pZ (kPair (kC (5 : Int)) kU0))) kNil) (pS (pS (pS (pS (pS pZ)))))) kNx)) kNx) (kSeq (kIf (kCmp mEq (kV (gS (gS gZ))) (kC (3 : Int))) (kSet (kCons (kF (fun x => (x.1, x.2.1)) (kPair (kC ([108, 111, 99, 107] : List Nat)) (kPair (kCons (kC ([102, 114, 101, 101] : List Nat)) (kCons (kC ([104, 101, 108, 100] : List Nat)) kNil)) kU0))) (kCons (kF (fun x => (x.1, x.2.1)) (kPair (kC ([108, 111, 99, 107] : List Nat)) (kPair (kCons (kC ([102, 114, 101, 101] : List Nat)) (kCons (kC ([104, 101, 108, 100] : List Nat)) kNil)) kU0))) kNil)) (pS (pS (pS (pS (pS pZ)))))) kNx) (kSeq (kIf (kCmp mEq (kV (gS (gS gZ))) (kC (4 : Int))) (kSeq (kSet (kCons (kF (fun x => (x.1, x.2.1)) (kPair (kC ([98, 111, 120] : List Nat)) (kPair (kNil (α := (List Nat))) kU0))) (kCons (kF (fun x => (x.1, x.2.1)) (kPair (kC ([98, 111, 120] : List Nat)) (kPair (kCons (kC ([97] : List Nat)) (kCons (kC ([98] : List Nat)) (kCons (kC ([99] : List Nat)) (kCons (kC ([100] : List Nat)) kNil)))) kU0))) (kCons (kF (fun x => (x.1, x.2.1)) (kPair (kC ([98, 111, 120] : List Nat)) (kPair (kCons (kC ([97] : List Nat)) (kCons (kC ([97] : List Nat)) kNil)) kU0))) (kCons (kF (fun x => (x.1, x.2.1)) (kPair (kB mIx (kV (gS (gS (gS gZ)))) (kC (0 : Int))) (kPair (kCons (kC ([97] : List Nat)) kNil) kU0))) (kCons (kF (fun x => (x.1, x.2.1)) (kPair (kC ([115, 101, 110, 100] : List Nat)) (kPair (kCons (kC ([97] : List Nat)) kNil) kU0))) kNil))))) (pS (pS (pS (pS (pS (pS (pS (pS (pS pZ)))))))))) (kSeq (kSet (kCons (kB mIx (kV (gS (gS (gS (gS (gS (gS (gS (gS (gS gZ)))))))))) (kCallL m__law_take gZ pZ (kPair (kC (5 : Int)) kU0))) kNil) (pS (pS (pS (pS (pS (pS pZ))))))) kNx)) kNx) (kSeq (kIf (kCmp mEq (kV (gS (gS gZ))) (kC (5 : Int))) (kSet (kCons (kF (fun x => (x.1, x.2.1)) (kPair (kC ([98, 111, 120] : List Nat)) (kPair (kCons (kC ([112, 105, 110, 103] : List Nat)) kNil) kU0))) (kCons (kF (fun x => (x.1, x.2.1)) (kPair (kC ([98, 111, 121] : List Nat)) (kPair (kCons (kC ([112, 105, 110, 103] : List Nat)) kNil) kU0))) (kCons (kF (fun x => (x.1, x.2.1)) (kPair (kC ([98, 111, 116] : List Nat)) (kPair (kCons (kC ([112, 105, 110, 103] : List Nat)) kNil) kU0))) kNil))) (pS (pS (pS (pS (pS (pS pZ))))))) kNx) (kSeq (kIf (kCmp mEq (kV (gS (gS gZ))) (kC (6 : Int))) (kSet (kB mCat (kV (gS (gS (gS (gS (gS (gS (gS gZ)))))))) (kCons (kB mIx (kV (gS (gS (gS (gS (gS (gS (gS gZ)))))))) (kC (0 : Int))) kNil)) (pS (pS (pS (pS (pS (pS (pS pZ)))))))) kNx) (kSeq (kIf (kCmp mEq (kV (gS (gS gZ))) (kC (7 : Int))) (kSet (kLc (kRange1 (kC (9 : Int))) (pS (pS (pS (pS (pS (pS (pS (pS (pS (pS (pS pZ))))))))))) (kB (fun x y => .ok (x.1, y)) (kPair (kB mCat (kC ([114] : List Nat)) (kU mStr (kV (gS (gS (gS (gS (gS (gS (gS (gS (gS (gS (gS gZ)))))))))))))) kU0) (kF (fun x => x.2) (kB mIx (kV (gS (gS (gS (gS (gS (gS (gS gZ)))))))) (kC (0 : Int)))))) (pS (pS (pS (pS (pS (pS (pS pZ)))))))) kNx) (kSeq (kIf (kAnd (kCmp mGt (kV (gS (gS gZ))) (kC (7 : Int))) (kCmp mLt (kV (gS (gS gZ))) (kC (11 : Int)))) (kSeq (kSet (kCallL m__law_take gZ pZ (kPair (kF (fun x => (x.length : Int)) (kV (gS (gS (gS (gS (gS (gS (gS gZ))))))))) kU0)) (pS (pS (pS (pS (pS (pS (pS (pS (pS (pS pZ))))))))))) (kSeq (kSet (kB mCat (kB mCat (kCut (kV (gS (gS (gS (gS (gS (gS (gS gZ)))))))) (kC none) (kF some (kV (gS (gS (gS (gS (gS (gS (gS (gS (gS (gS gZ))))))))))))) (kCons (kCallL m__law_spoilt_rule gZ pZ (kPair (kB mIx (kV (gS (gS (gS (gS (gS (gS (gS gZ)))))))) (kV (gS (gS (gS (gS (gS (gS (gS (gS (gS (gS gZ)))))))))))) (kPair (kV (gS (gS (gS gZ)))) kU0))) kNil)) (kCut (kV (gS (gS (gS (gS (gS (gS (gS gZ)))))))) (kF some (kB mAdd (kV (gS (gS (gS (gS (gS (gS (gS (gS (gS (gS gZ))))))))))) (kC (1 : Int)))) (kC none))) (pS (pS (pS (pS (pS (pS (pS pZ)))))))) kNx)) kNx) (kSeq (kIf (kCmp mEq (kV (gS (gS gZ))) (kC (11 : Int))) (kSet (kB mIx (kCons (kB mCat (kV (gS (gS (gS (gS (gS (gS (gS (gS gZ))))))))) (kCons (kCallL m__law_spoilt_pattern gZ pZ (kPair (kV (gS (gS (gS gZ)))) kU0)) kNil)) (kCons (kB mRep (kV (gS (gS (gS (gS (gS (gS (gS (gS gZ))))))))) (kC (5 : Int))) kNil)) (kU mInt (kCmp mEq (kCallL m__law_take gZ pZ (kPair (kC (4 : Int)) kU0)) (kC (0 : Int))))) (pS (pS (pS (pS (pS (pS (pS (pS pZ))))))))) kNx) (kRetL gZ (kPair (kV (gS (gS (gS gZ)))) (kPair (kV (gS (gS (gS (gS gZ))))) (kPair (kV (gS (gS (gS (gS (gS gZ)))))) (kPair (kV (gS (gS (gS (gS (gS (gS gZ))))))) (kPair (kV (gS (gS (gS (gS (gS (gS (gS gZ)))))))) (kPair (kV (gS (gS (gS (gS (gS (gS (gS (gS gZ))))))))) kU0))))))))))))))))))) (iS (iS (iZ (0, [], [], [], [], [], [], [], 0, 0, ())))) (fun _ => .bad)
abbrev s__law_spoilt : Stmt := (topS 33)
theorem sc__law_spoilt : FnScope ["_law_draws_here", "_law_parts", "_law_kind", "_law_states", "_law_start", "_law_variables", "_law_channels", "_law_rules", "_law_bad", "_law_odd", "_law_at", "_law_k"] ["_law_draws_here", "_law_parts"] (defScope s__law_spoilt) := ⟨rfl, rfl, rfl, by decide +kernel, rfl, by decide +kernel, by decide +kernel⟩
theorem ok__law_spoilt {f : Addr} {fd : FuncData} (D : DefAt K mg "_law_spoilt" s__law_spoilt ["_law_draws_here", "_law_parts"] f fd) (U : Uses K mg) {f__law_spoilt_pattern : Addr} {fd__law_spoilt_pattern : FuncData} (D__law_spoilt_pattern : DefAt K mg "_law_spoilt_pattern" s__law_spoilt_pattern ["_law_draws_here", "_law_states"] f__law_spoilt_pattern fd__law_spoilt_pattern) (G__law_spoilt_pattern : FnOk P w K mg base (L2.CX P w) 2 f__law_spoilt_pattern fd__law_spoilt_pattern ["_law_draws_here", "_law_states"] (spL (XRm mg) tInt (acons (fz (tLst tTxt)) anil) (fz (tP2 (tLst (tP2 tTxt tInt)) (tLst (tP2 tTxt tTxt)))) m__law_spoilt_pattern)) {f__law_spoilt_rule : Addr} {fd__law_spoilt_rule : FuncData} (D__law_spoilt_rule : DefAt K mg "_law_spoilt_rule" s__law_spoilt_rule ["_law_draws_here", "_law_rule_here", "_law_states"] f__law_spoilt_rule fd__law_spoilt_rule) (G__law_spoilt_rule : FnOk P w K mg base (L2.CX P w) 2 f__law_spoilt_rule fd__law_spoilt_rule ["_law_draws_here", "_law_rule_here", "_law_states"] (spL (XRm mg) tInt (acons (fz (tH (hcons tTxt (hcons (tLst (tP2 tTxt tTxt)) (hcons (tLst (tP2 tTxt tTxt)) (hcons (tLst tTxt) (hcons (tLst (tP2 tTxt tTxt)) (hcons (tLst (tP2 tTxt tTxt)) (hcons (tLst (tP2 tTxt tTxt)) (hcons (tLst (tP2 tTxt tTxt)) hnil)))))))))) (acons (fz (tLst tTxt)) anil)) (fz (tH (hcons tTxt (hcons (tLst (tP2 tTxt tTxt)) (hcons (tLst (tP2 tTxt tTxt)) (hcons (tLst tTxt) (hcons (tLst (tP2 tTxt tTxt)) (hcons (tLst (tP2 tTxt tTxt)) (hcons (tLst (tP2 tTxt tTxt)) (hcons (tLst (tP2 tTxt tTxt)) hnil)))))))))) m__law_spoilt_rule)) {f__law_take : Addr} {fd__law_take : FuncData} (D__law_take : DefAt K mg "_law_take" s__law_take ["_law_draws_here", "_law_limit"] f__law_take fd__law_take) (G__law_take : FnOk P w K mg base (L2.CX P w) 1 f__law_take fd__law_take ["_law_draws_here", "_law_limit"] (spL (XRm mg) tInt (acons (fz tInt) anil) (fz tInt) m__law_take)) : FnOk P w K mg base (L2.CX P w) 3 f fd ["_law_draws_here", "_law_parts"] (spL (XRm mg) tInt (acons (fz (tH (hcons (tLst tTxt) (hcons tTxt (hcons (tLst (tP2 tTxt (tLst tTxt))) (hcons (tLst (tP2 tTxt (tLst tTxt))) (hcons (tLst (tH (hcons tTxt (hcons (tLst (tP2 tTxt tTxt)) (hcons (tLst (tP2 tTxt tTxt)) (hcons (tLst tTxt) (hcons (tLst (tP2 tTxt tTxt)) (hcons (tLst (tP2 tTxt tTxt)) (hcons (tLst (tP2 tTxt tTxt)) (hcons (tLst (tP2 tTxt tTxt)) hnil)))))))))) (hcons (tLst (tP2 (tLst (tP2 tTxt tInt)) (tLst (tP2 tTxt tTxt)))) hnil)))))))) anil) (fz (tH (hcons (tLst tTxt) (hcons tTxt (hcons (tLst (tP2 tTxt (tLst tTxt))) (hcons (tLst (tP2 tTxt (tLst tTxt))) (hcons (tLst (tH (hcons tTxt (hcons (tLst (tP2 tTxt tTxt)) (hcons (tLst (tP2 tTxt tTxt)) (hcons (tLst tTxt) (hcons (tLst (tP2 tTxt tTxt)) (hcons (tLst (tP2 tTxt tTxt)) (hcons (tLst (tP2 tTxt tTxt)) (hcons (tLst (tP2 tTxt tTxt)) hnil)))))))))) (hcons (tLst (tP2 (tLst (tP2 tTxt tInt)) (tLst (tP2 tTxt tTxt)))) hnil)))))))) m__law_spoilt) :=
  fn_okK (G1 := fun _ => gnil) D.F sc__law_spoilt rfl rfl (fun ad => (st_cons (st_cons (st_nil (any_cons (any_cons (any_cons (any_cons (any_cons (any_cons (any_cons (any_cons (any_cons (any_cons any_nil)))))))))))))) (fun ad => fall_bad) (fun ad cdv A outer s H E hr =>
    (ss_cons (sm_unpack (R := fz (tH (hcons (tLst tTxt) (hcons tTxt (hcons (tLst (tP2 tTxt (tLst tTxt))) (hcons (tLst (tP2 tTxt (tLst tTxt))) (hcons (tLst (tH (hcons tTxt (hcons (tLst (tP2 tTxt tTxt)) (hcons (tLst (tP2 tTxt tTxt)) (hcons (tLst tTxt) (hcons (tLst (tP2 tTxt tTxt)) (hcons (tLst (tP2 tTxt tTxt)) (hcons (tLst (tP2 tTxt tTxt)) (hcons (tLst (tP2 tTxt tTxt)) hnil)))))))))) (hcons (tLst (tP2 (tLst (tP2 tTxt tInt)) (tLst (tP2 tTxt tTxt)))) hnil)))))))) (tgt_H rfl (tgs_cons (tgt_name sc__law_spoilt.nd rfl (.inl rfl) (At.s (At.s (At.s At.z))) (.inl rfl)) (tgs_cons (tgt_name sc__law_spoilt.nd rfl (.inl rfl) (At.s (At.s (At.s (At.s At.z)))) (.inl rfl)) (tgs_cons (tgt_name sc__law_spoilt.nd rfl (.inl rfl) (At.s (At.s (At.s (At.s (At.s At.z))))) (.inl rfl)) (tgs_cons (tgt_name sc__law_spoilt.nd rfl (.inl rfl) (At.s (At.s (At.s (At.s (At.s (At.s At.z)))))) (.inl rfl)) (tgs_cons (tgt_name sc__law_spoilt.nd rfl (.inr rfl) (At.s (At.s (At.s (At.s (At.s (At.s (At.s At.z))))))) (.inl rfl)) (tgs_cons (tgt_name sc__law_spoilt.nd rfl (.inl rfl) (At.s (At.s (At.s (At.s (At.s (At.s (At.s (At.s At.z)))))))) (.inl rfl)) tgs_nil)))))) rfl (fun _ h => pg_tup rfl h)) (em_var rfl (.inl rfl) (At.s At.z)) (fun _ _ h h2 => ps_asg h h2)) (ss_cons (sm_set sc__law_spoilt.nd rfl (.inl rfl) (At.s (At.s At.z)) (em_callL (takes_of rfl rfl rfl rfl) G__law_take (hr.mono (by decide)) (by rfl) D__law_take.g D__law_take.F.kp D__law_take.b rfl (.inl rfl) At.z (am_cons em_int am_nil)) (hf := .inl rfl)) (ss_cons (sm_if (tm_c (cm_eqS scInt) (nomark _) (em_var rfl (.inl rfl) (At.s (At.s At.z))) em_int) (ss_one (sm_set sc__law_spoilt.nd rfl (.inl rfl) (At.s (At.s (At.s At.z))) (em_ixL (fun _ _ => rfl) (em_freeze (em_lstN (am_hcons (em_freeze (em_catL (em_var rfl (.inl rfl) (At.s (At.s (At.s At.z)))) (em_freeze (em_cutL (em_var rfl (.inl rfl) (At.s (At.s (At.s At.z)))) om_none (om_some em_int))))) (am_hcons (em_freeze (em_lstN (am_hnil (T := tTxt)) ln_nil (by decide))) (am_hcons (em_freeze (em_catL (em_var rfl (.inl rfl) (At.s (At.s (At.s At.z)))) (em_freeze (em_lstN (am_hcons (em_txt (x := ([97, 108, 108] : List Nat)) (by decide +kernel) (by decide)) (am_hnil (T := tTxt))) (ln_cons ln_nil) (by decide))))) (am_hcons (em_freeze (em_lstN (am_hcons (em_txt (x := ([97, 49] : List Nat)) (by decide +kernel) (by decide)) (am_hcons (em_txt (x := ([98, 49] : List Nat)) (by decide +kernel) (by decide)) (am_hcons (em_txt (x := ([99, 49] : List Nat)) (by decide +kernel) (by decide)) (am_hcons (em_txt (x := ([100, 49] : List Nat)) (by decide +kernel) (by decide)) (am_hcons (em_txt (x := ([101, 49] : List Nat)) (by decide +kernel) (by decide)) (am_hcons (em_txt (x := ([102, 49] : List Nat)) (by decide +kernel) (by decide)) (am_hcons (em_txt (x := ([103, 49] : List Nat)) (by decide +kernel) (by decide)) (am_hnil (T := tTxt))))))))) (ln_cons (ln_cons (ln_cons (ln_cons (ln_cons (ln_cons (ln_cons ln_nil))))))) (by decide))) (am_hnil (T := (tLst tTxt))))))) (ln_cons (ln_cons (ln_cons (ln_cons ln_nil)))) (by decide))) (em_callL (takes_of rfl rfl rfl rfl) G__law_take (hr.mono (by decide)) (by rfl) D__law_take.g D__law_take.F.kp D__law_take.b rfl (.inl rfl) At.z (am_cons em_int am_nil))) (hf := .inl rfl))) (ss_nilI MvI.refl)) (ss_cons (sm_if (tm_c (cm_eqS scInt) (nomark _) (em_var rfl (.inl rfl) (At.s (At.s At.z))) em_int) (ss_one (sm_set sc__law_spoilt.nd rfl (.inl rfl) (At.s (At.s (At.s (At.s At.z)))) (em_ixL (fun _ _ => rfl) (em_freeze (em_lstN (am_hcons (em_txt (x := ([110, 111, 119, 104, 101, 114, 101] : List Nat)) (by decide +kernel) (by decide)) (am_hcons (em_txt (x := ([] : List Nat)) (by decide +kernel) (by decide)) (am_hcons (em_txt (x := ([103, 111, 110, 101] : List Nat)) (by decide +kernel) (by decide)) (am_hnil (T := tTxt))))) (ln_cons (ln_cons (ln_cons ln_nil))) (by decide))) (em_callL (takes_of rfl rfl rfl rfl) G__law_take (hr.mono (by decide)) (by rfl) D__law_take.g D__law_take.F.kp D__law_take.b rfl (.inl rfl) At.z (am_cons em_int am_nil))) (hf := .inl rfl))) (ss_nilI MvI.refl)) (ss_cons (sm_if (tm_c (cm_eqS scInt) (nomark _) (em_var rfl (.inl rfl) (At.s (At.s At.z))) em_int) (ss_cons (sm_set sc__law_spoilt.nd rfl (.inl rfl) (At.s (At.s (At.s (At.s (At.s (At.s (At.s (At.s (At.s At.z))))))))) (em_freeze (em_lstN (am_hcons (em_tup2 (am_cons (em_txt (x := ([108, 111, 99, 107] : List Nat)) (by decide +kernel) (by decide)) (am_cons (em_freeze (em_lstN (am_hcons (em_txt (x := ([102, 114, 101, 101] : List Nat)) (by decide +kernel) (by decide)) (am_hnil (T := tTxt))) (ln_cons ln_nil) (by decide))) am_nil))) (am_hcons (em_tup2 (am_cons (em_txt (x := ([108, 111, 99, 107] : List Nat)) (by decide +kernel) (by decide)) (am_cons (em_freeze (em_lstN (am_hcons (em_txt (x := ([97] : List Nat)) (by decide +kernel) (by decide)) (am_hcons (em_txt (x := ([98] : List Nat)) (by decide +kernel) (by decide)) (am_hcons (em_txt (x := ([99] : List Nat)) (by decide +kernel) (by decide)) (am_hcons (em_txt (x := ([100] : List Nat)) (by decide +kernel) (by decide)) (am_hnil (T := tTxt)))))) (ln_cons (ln_cons (ln_cons (ln_cons ln_nil)))) (by decide))) am_nil))) (am_hcons (em_tup2 (am_cons (em_txt (x := ([108, 111, 99, 107] : List Nat)) (by decide +kernel) (by decide)) (am_cons (em_freeze (em_lstN (am_hcons (em_txt (x := ([97] : List Nat)) (by decide +kernel) (by decide)) (am_hcons (em_txt (x := ([97] : List Nat)) (by decide +kernel) (by decide)) (am_hnil (T := tTxt)))) (ln_cons (ln_cons ln_nil)) (by decide))) am_nil))) (am_hcons (em_tup2 (am_cons (em_txt (x := ([115, 101, 116] : List Nat)) (by decide +kernel) (by decide)) (am_cons (em_freeze (em_lstN (am_hcons (em_txt (x := ([97] : List Nat)) (by decide +kernel) (by decide)) (am_hcons (em_txt (x := ([98] : List Nat)) (by decide +kernel) (by decide)) (am_hnil (T := tTxt)))) (ln_cons (ln_cons ln_nil)) (by decide))) am_nil))) (am_hcons (em_tup2 (am_cons (em_ixL (fun _ _ => rfl) (em_var rfl (.inl rfl) (At.s (At.s (At.s At.z)))) em_int) (am_cons (em_freeze (em_lstN (am_hcons (em_txt (x := ([97] : List Nat)) (by decide +kernel) (by decide)) (am_hcons (em_txt (x := ([98] : List Nat)) (by decide +kernel) (by decide)) (am_hnil (T := tTxt)))) (ln_cons (ln_cons ln_nil)) (by decide))) am_nil))) (am_hnil (T := (tP2 tTxt (tLst tTxt))))))))) (ln_cons (ln_cons (ln_cons (ln_cons (ln_cons ln_nil))))) (by decide))) (hf := .inl rfl)) (ss_cons (sm_set sc__law_spoilt.nd rfl (.inl rfl) (At.s (At.s (At.s (At.s (At.s At.z))))) (em_freeze (em_lstN (am_hcons (em_ixL (fun _ _ => rfl) (em_var rfl (.inl rfl) (At.s (At.s (At.s (At.s (At.s (At.s (At.s (At.s (At.s At.z)))))))))) (em_callL (takes_of rfl rfl rfl rfl) G__law_take (hr.mono (by decide)) (by rfl) D__law_take.g D__law_take.F.kp D__law_take.b rfl (.inl rfl) At.z (am_cons em_int am_nil))) (am_hnil (T := (tP2 tTxt (tLst tTxt))))) (ln_cons ln_nil) (by decide))) (hf := .inl rfl)) (ss_nilI (MvI.cons SMvI.refl (MvI.cons SMvI.refl (MvI.cons SMvI.refl (MvI.cons SMvI.refl (MvI.cons SMvI.refl (MvI.cons SMvI.refl (MvI.cons SMvI.refl (MvI.cons SMvI.refl (MvI.cons SMvI.refl (MvI.cons SMvI.hide MvI.refl))))))))))))) (ss_nilI MvI.refl)) (ss_cons (sm_if (tm_c (cm_eqS scInt) (nomark _) (em_var rfl (.inl rfl) (At.s (At.s At.z))) em_int) (ss_one (sm_set sc__law_spoilt.nd rfl (.inl rfl) (At.s (At.s (At.s (At.s (At.s At.z))))) (em_freeze (em_lstN (am_hcons (em_tup2 (am_cons (em_txt (x := ([108, 111, 99, 107] : List Nat)) (by decide +kernel) (by decide)) (am_cons (em_freeze (em_lstN (am_hcons (em_txt (x := ([102, 114, 101, 101] : List Nat)) (by decide +kernel) (by decide)) (am_hcons (em_txt (x := ([104, 101, 108, 100] : List Nat)) (by decide +kernel) (by decide)) (am_hnil (T := tTxt)))) (ln_cons (ln_cons ln_nil)) (by decide))) am_nil))) (am_hcons (em_tup2 (am_cons (em_txt (x := ([108, 111, 99, 107] : List Nat)) (by decide +kernel) (by decide)) (am_cons (em_freeze (em_lstN (am_hcons (em_txt (x := ([102, 114, 101, 101] : List Nat)) (by decide +kernel) (by decide)) (am_hcons (em_txt (x := ([104, 101, 108, 100] : List Nat)) (by decide +kernel) (by decide)) (am_hnil (T := tTxt)))) (ln_cons (ln_cons ln_nil)) (by decide))) am_nil))) (am_hnil (T := (tP2 tTxt (tLst tTxt)))))) (ln_cons (ln_cons ln_nil)) (by decide))) (hf := .inl rfl))) (ss_nilI MvI.refl)) (ss_cons (sm_if (tm_c (cm_eqS scInt) (nomark _) (em_var rfl (.inl rfl) (At.s (At.s At.z))) em_int) (ss_cons (sm_set sc__law_spoilt.nd rfl (.inl rfl) (At.s (At.s (At.s (At.s (At.s (At.s (At.s (At.s (At.s At.z))))))))) (em_freeze (em_lstN (am_hcons (em_tup2 (am_cons (em_txt (x := ([98, 111, 120] : List Nat)) (by decide +kernel) (by decide)) (am_cons (em_freeze (em_lstN (am_hnil (T := tTxt)) ln_nil (by decide))) am_nil))) (am_hcons (em_tup2 (am_cons (em_txt (x := ([98, 111, 120] : List Nat)) (by decide +kernel) (by decide)) (am_cons (em_freeze (em_lstN (am_hcons (em_txt (x := ([97] : List Nat)) (by decide +kernel) (by decide)) (am_hcons (em_txt (x := ([98] : List Nat)) (by decide +kernel) (by decide)) (am_hcons (em_txt (x := ([99] : List Nat)) (by decide +kernel) (by decide)) (am_hcons (em_txt (x := ([100] : List Nat)) (by decide +kernel) (by decide)) (am_hnil (T := tTxt)))))) (ln_cons (ln_cons (ln_cons (ln_cons ln_nil)))) (by decide))) am_nil))) (am_hcons (em_tup2 (am_cons (em_txt (x := ([98, 111, 120] : List Nat)) (by decide +kernel) (by decide)) (am_cons (em_freeze (em_lstN (am_hcons (em_txt (x := ([97] : List Nat)) (by decide +kernel) (by decide)) (am_hcons (em_txt (x := ([97] : List Nat)) (by decide +kernel) (by decide)) (am_hnil (T := tTxt)))) (ln_cons (ln_cons ln_nil)) (by decide))) am_nil))) (am_hcons (em_tup2 (am_cons (em_ixL (fun _ _ => rfl) (em_var rfl (.inl rfl) (At.s (At.s (At.s At.z)))) em_int) (am_cons (em_freeze (em_lstN (am_hcons (em_txt (x := ([97] : List Nat)) (by decide +kernel) (by decide)) (am_hnil (T := tTxt))) (ln_cons ln_nil) (by decide))) am_nil))) (am_hcons (em_tup2 (am_cons (em_txt (x := ([115, 101, 110, 100] : List Nat)) (by decide +kernel) (by decide)) (am_cons (em_freeze (em_lstN (am_hcons (em_txt (x := ([97] : List Nat)) (by decide +kernel) (by decide)) (am_hnil (T := tTxt))) (ln_cons ln_nil) (by decide))) am_nil))) (am_hnil (T := (tP2 tTxt (tLst tTxt))))))))) (ln_cons (ln_cons (ln_cons (ln_cons (ln_cons ln_nil))))) (by decide))) (hf := .inl rfl)) (ss_cons (sm_set sc__law_spoilt.nd rfl (.inl rfl) (At.s (At.s (At.s (At.s (At.s (At.s At.z)))))) (em_freeze (em_lstN (am_hcons (em_ixL (fun _ _ => rfl) (em_var rfl (.inl rfl) (At.s (At.s (At.s (At.s (At.s (At.s (At.s (At.s (At.s At.z)))))))))) (em_callL (takes_of rfl rfl rfl rfl) G__law_take (hr.mono (by decide)) (by rfl) D__law_take.g D__law_take.F.kp D__law_take.b rfl (.inl rfl) At.z (am_cons em_int am_nil))) (am_hnil (T := (tP2 tTxt (tLst tTxt))))) (ln_cons ln_nil) (by decide))) (hf := .inl rfl)) (ss_nilI (MvI.cons SMvI.refl (MvI.cons SMvI.refl (MvI.cons SMvI.refl (MvI.cons SMvI.refl (MvI.cons SMvI.refl (MvI.cons SMvI.refl (MvI.cons SMvI.refl (MvI.cons SMvI.refl (MvI.cons SMvI.refl (MvI.cons SMvI.hide MvI.refl))))))))))))) (ss_nilI MvI.refl)) (ss_cons (sm_if (tm_c (cm_eqS scInt) (nomark _) (em_var rfl (.inl rfl) (At.s (At.s At.z))) em_int) (ss_one (sm_set sc__law_spoilt.nd rfl (.inl rfl) (At.s (At.s (At.s (At.s (At.s (At.s At.z)))))) (em_freeze (em_lstN (am_hcons (em_tup2 (am_cons (em_txt (x := ([98, 111, 120] : List Nat)) (by decide +kernel) (by decide)) (am_cons (em_freeze (em_lstN (am_hcons (em_txt (x := ([112, 105, 110, 103] : List Nat)) (by decide +kernel) (by decide)) (am_hnil (T := tTxt))) (ln_cons ln_nil) (by decide))) am_nil))) (am_hcons (em_tup2 (am_cons (em_txt (x := ([98, 111, 121] : List Nat)) (by decide +kernel) (by decide)) (am_cons (em_freeze (em_lstN (am_hcons (em_txt (x := ([112, 105, 110, 103] : List Nat)) (by decide +kernel) (by decide)) (am_hnil (T := tTxt))) (ln_cons ln_nil) (by decide))) am_nil))) (am_hcons (em_tup2 (am_cons (em_txt (x := ([98, 111, 116] : List Nat)) (by decide +kernel) (by decide)) (am_cons (em_freeze (em_lstN (am_hcons (em_txt (x := ([112, 105, 110, 103] : List Nat)) (by decide +kernel) (by decide)) (am_hnil (T := tTxt))) (ln_cons ln_nil) (by decide))) am_nil))) (am_hnil (T := (tP2 tTxt (tLst tTxt))))))) (ln_cons (ln_cons (ln_cons ln_nil))) (by decide))) (hf := .inl rfl))) (ss_nilI MvI.refl)) (ss_cons (sm_if (tm_c (cm_eqS scInt) (nomark _) (em_var rfl (.inl rfl) (At.s (At.s At.z))) em_int) (ss_one (sm_set sc__law_spoilt.nd rfl (.inr rfl) (At.s (At.s (At.s (At.s (At.s (At.s (At.s At.z))))))) (em_freeze (em_catL (em_var rfl (.inr (.inl rfl)) (At.s (At.s (At.s (At.s (At.s (At.s (At.s At.z)))))))) (em_freeze (em_lstN (am_hcons (em_ixL (fun _ _ => rfl) (em_var rfl (.inr (.inl rfl)) (At.s (At.s (At.s (At.s (At.s (At.s (At.s At.z)))))))) em_int) (am_hnil (T := (tH (hcons tTxt (hcons (tLst (tP2 tTxt tTxt)) (hcons (tLst (tP2 tTxt tTxt)) (hcons (tLst tTxt) (hcons (tLst (tP2 tTxt tTxt)) (hcons (tLst (tP2 tTxt tTxt)) (hcons (tLst (tP2 tTxt tTxt)) (hcons (tLst (tP2 tTxt tTxt)) hnil)))))))))))) (ln_cons ln_nil) (by decide))))) (hf := .inl rfl))) (ss_nilI MvI.refl)) (ss_cons (sm_if (tm_c (cm_eqS scInt) (nomark _) (em_var rfl (.inl rfl) (At.s (At.s At.z))) em_int) (ss_one (sm_set sc__law_spoilt.nd rfl (.inr rfl) (At.s (At.s (At.s (At.s (At.s (At.s (At.s At.z))))))) (em_freeze (em_lcK (own := [("_law_k", 11)]) rfl sc__law_spoilt.nd (im_range1 (by rfl) U.range em_int) (blkOk_by (N := ["_law_draws_here", "_law_parts", "_law_kind", "_law_states", "_law_start", "_law_variables", "_law_channels", "_law_rules", "_law_bad", "_law_odd", "_law_at", "_law_k"]) (sc := (defScope s__law_spoilt)) (by decide +kernel)) (ko_keep (by decide) (ko_keep (by decide) (ko_keep (by decide) (ko_keep (by decide) (ko_keep (by decide) (ko_keep (by decide) (ko_keep (by decide) (ko_keep (by decide) (ko_keep (by decide) (ko_any (ko_any (ko_any ko_nil)))))))))))) (fun _ _ _ _ _ => (tgt_name sc__law_spoilt.nd rfl (.inl (by rfl)) (At.s (At.s (At.s (At.s (At.s (At.s (At.s (At.s (At.s (At.s (At.s At.z))))))))))) (.inr (by rfl)))) (fun _ _ _ _ _ => (em_hadd (em_tupH (am_Hcons (em_addS (em_txt (x := ([114] : List Nat)) (by decide +kernel) (by decide)) (em_strI (by rfl) U.str (em_var rfl (.inl (by rfl)) (At.s (At.s (At.s (At.s (At.s (At.s (At.s (At.s (At.s (At.s (At.s At.z)))))))))))))) am_Hnil)) (em_htail (em_ixL (fun _ _ => rfl) (em_var rfl (by first | exact .inr (.inr rfl) | exact .inr (.inl rfl)) (At.s (At.s (At.s (At.s (At.s (At.s (At.s At.z)))))))) em_int)))) (bi_cons (bi_cons (bi_cons (bi_cons (bi_cons (bi_cons (bi_cons (bi_cons (bi_cons (bi_cons (bi_cons (bi_any bi_refl)))))))))))))) (hf := .inl rfl))) (ss_nilI MvI.refl)) (ss_cons (sm_if (tm_b (bm_and (tm_c cm_gt (nomark _) (em_var rfl (.inl rfl) (At.s (At.s At.z))) em_int) (bm_and1 (tm_c cm_lt (nomark _) (em_var rfl (.inl rfl) (At.s (At.s At.z))) em_int)))) (ss_cons (sm_set sc__law_spoilt.nd rfl (.inl rfl) (At.s (At.s (At.s (At.s (At.s (At.s (At.s (At.s (At.s (At.s At.z)))))))))) (em_callL (takes_of rfl rfl rfl rfl) G__law_take (hr.mono (by decide)) (by rfl) D__law_take.g D__law_take.F.kp D__law_take.b rfl (.inl rfl) At.z (am_cons (em_len (by rfl) U.len (em_var rfl (.inr (.inl rfl)) (At.s (At.s (At.s (At.s (At.s (At.s (At.s At.z))))))))) am_nil)) (hf := .inl rfl)) (ss_cons (sm_set sc__law_spoilt.nd rfl (.inr rfl) (At.s (At.s (At.s (At.s (At.s (At.s (At.s At.z))))))) (em_freeze (em_catL (em_freeze (em_catL (em_freeze (em_cutL (em_var rfl (.inr (.inl rfl)) (At.s (At.s (At.s (At.s (At.s (At.s (At.s At.z)))))))) om_none (om_some (em_var rfl (.inl rfl) (At.s (At.s (At.s (At.s (At.s (At.s (At.s (At.s (At.s (At.s At.z)))))))))))))) (em_freeze (em_lstN (am_hcons (em_callL (takes_of rfl rfl rfl rfl) G__law_spoilt_rule (hr.mono (by decide)) (by rfl) D__law_spoilt_rule.g D__law_spoilt_rule.F.kp D__law_spoilt_rule.b rfl (.inl rfl) At.z (am_cons (em_ixL (fun _ _ => rfl) (em_var rfl (.inr (.inl rfl)) (At.s (At.s (At.s (At.s (At.s (At.s (At.s At.z)))))))) (em_var rfl (.inl rfl) (At.s (At.s (At.s (At.s (At.s (At.s (At.s (At.s (At.s (At.s At.z)))))))))))) (am_cons (em_var rfl (.inl rfl) (At.s (At.s (At.s At.z)))) am_nil))) (am_hnil (T := (tH (hcons tTxt (hcons (tLst (tP2 tTxt tTxt)) (hcons (tLst (tP2 tTxt tTxt)) (hcons (tLst tTxt) (hcons (tLst (tP2 tTxt tTxt)) (hcons (tLst (tP2 tTxt tTxt)) (hcons (tLst (tP2 tTxt tTxt)) (hcons (tLst (tP2 tTxt tTxt)) hnil)))))))))))) (ln_cons ln_nil) (by decide))))) (em_freeze (em_cutL (em_var rfl (.inr (.inl rfl)) (At.s (At.s (At.s (At.s (At.s (At.s (At.s At.z)))))))) (om_some (em_add (em_var rfl (.inl rfl) (At.s (At.s (At.s (At.s (At.s (At.s (At.s (At.s (At.s (At.s At.z))))))))))) em_int)) om_none)))) (hf := .inl rfl)) (ss_nilI (MvI.cons SMvI.refl (MvI.cons SMvI.refl (MvI.cons SMvI.refl (MvI.cons SMvI.refl (MvI.cons SMvI.refl (MvI.cons SMvI.refl (MvI.cons SMvI.refl (MvI.cons SMvI.refl (MvI.cons SMvI.refl (MvI.cons SMvI.refl (MvI.cons SMvI.hide MvI.refl)))))))))))))) (ss_nilI MvI.refl)) (ss_cons (sm_if (tm_c (cm_eqS scInt) (nomark _) (em_var rfl (.inl rfl) (At.s (At.s At.z))) em_int) (ss_one (sm_set sc__law_spoilt.nd rfl (.inl rfl) (At.s (At.s (At.s (At.s (At.s (At.s (At.s (At.s At.z)))))))) (em_ixL (fun _ _ => rfl) (em_freeze (em_lstN (am_hcons (em_freeze (em_catL (em_var rfl (.inl rfl) (At.s (At.s (At.s (At.s (At.s (At.s (At.s (At.s At.z))))))))) (em_freeze (em_lstN (am_hcons (em_callL (takes_of rfl rfl rfl rfl) G__law_spoilt_pattern (hr.mono (by decide)) (by rfl) D__law_spoilt_pattern.g D__law_spoilt_pattern.F.kp D__law_spoilt_pattern.b rfl (.inl rfl) At.z (am_cons (em_var rfl (.inl rfl) (At.s (At.s (At.s At.z)))) am_nil)) (am_hnil (T := (tP2 (tLst (tP2 tTxt tInt)) (tLst (tP2 tTxt tTxt)))))) (ln_cons ln_nil) (by decide))))) (am_hcons (em_freeze (em_repL (em_var rfl (.inl rfl) (At.s (At.s (At.s (At.s (At.s (At.s (At.s (At.s At.z))))))))) em_int)) (am_hnil (T := (tLst (tP2 (tLst (tP2 tTxt tInt)) (tLst (tP2 tTxt tTxt)))))))) (ln_cons (ln_cons ln_nil)) (by decide))) (em_intB (by rfl) U.int (em_c (cm_eqS scInt) (nomark _) (em_callL (takes_of rfl rfl rfl rfl) G__law_take (hr.mono (by decide)) (by rfl) D__law_take.g D__law_take.F.kp D__law_take.b rfl (.inl rfl) At.z (am_cons em_int am_nil)) em_int))) (hf := .inl rfl))) (ss_nilI MvI.refl)) (ss_one (sm_retL At.z (em_tupH (am_Hcons (em_var rfl (.inl rfl) (At.s (At.s (At.s At.z)))) (am_Hcons (em_var rfl (.inl rfl) (At.s (At.s (At.s (At.s At.z))))) (am_Hcons (em_var rfl (.inl rfl) (At.s (At.s (At.s (At.s (At.s At.z)))))) (am_Hcons (em_var rfl (.inl rfl) (At.s (At.s (At.s (At.s (At.s (At.s At.z))))))) (am_Hcons (em_var rfl (.inr (.inl rfl)) (At.s (At.s (At.s (At.s (At.s (At.s (At.s At.z)))))))) (am_Hcons (em_var rfl (.inl rfl) (At.s (At.s (At.s (At.s (At.s (At.s (At.s (At.s At.z))))))))) am_Hnil))))))))))))))))))))))
/-! ### _law_is_kept -/
noncomputable def m__law_is_kept : (List ((List Nat) × (List Nat))) × (List ((List Nat) × (List Nat))) × Unit → Res Bool := kRun (S := (List ((List Nat) × (List Nat))) × (List ((List Nat) × (List Nat))) × ((List Nat) × (List Nat)) × Unit) (S' := Unit) (L := Unit) (kRet (kAnd (kF (fun _ => true) (kV gZ)) (kCmp mEq (kV gZ) (kU (fun x => .ok x) (kLc (kV (gS gZ)) (pS (pS pZ)) (kU (fun x => .ok x) (kV (gS (gS gZ))))))))) (iS (iS (iZ (([], []), ())))) (fun _ => .bad)
abbrev s__law_is_kept : Stmt := (topS 34)
theorem sc__law_is_kept : FnScope ["_law_actual", "_law_expected", "_law_pair"] ["_law_actual", "_law_expected"] (defScope s__law_is_kept) := ⟨rfl, rfl, rfl, by decide +kernel, rfl, by decide +kernel, by decide +kernel⟩
theorem ok__law_is_kept {f : Addr} {fd : FuncData} (D : DefAt K mg "_law_is_kept" s__law_is_kept ["_law_actual", "_law_expected"] f fd) (U : Uses K mg)  : FnOk P w K mg base (L2.CX P w) 1 f fd ["_law_actual", "_law_expected"] (spP (XRm mg) (acons (fz (tTup (tP2 tTxt tTxt))) (acons (fz (tLst (tP2 tTxt tTxt))) anil)) (fz tBool) m__law_is_kept) :=
  fn_okK (G1 := fun _ => gnil) D.F sc__law_is_kept rfl rfl (fun _ => (st_cons (st_cons (st_nil (any_cons any_nil))))) (fun _ => fall_bad) (fun _ cdv A outer s H E hr =>
    (ss_one (sm_retP (em_and (em_isC (by rfl) U.isinstance (by rfl) U.tuple (by decide +kernel) is_tup (em_var rfl (.inl rfl) At.z)) (em_one (em_c (cm_eqD (eqTup (eqP2 eqTxt eqTxt)) hr.units (by show ((max 0 0 + 1) + 1) ≤ 64; decide)) (nomark _) (em_var rfl (.inl rfl) At.z) (em_tupL (by rfl) U.tuple (em_freeze (em_lcK (own := [("_law_pair", 2)]) rfl sc__law_is_kept.nd (im_list (em_var rfl (.inl rfl) (At.s At.z))) (blkOk_by (N := ["_law_actual", "_law_expected", "_law_pair"]) (sc := (defScope s__law_is_kept)) (by decide +kernel)) (ko_keep (by decide) (ko_keep (by decide) (ko_any ko_nil))) (fun _ _ _ _ _ => (tgt_name sc__law_is_kept.nd rfl (.inl (by rfl)) (At.s (At.s At.z)) (.inr (by rfl)))) (fun _ _ _ _ _ => (em_tupP (by rfl) U.tuple (em_var rfl (.inl (by rfl)) (At.s (At.s At.z))))) (bi_cons (bi_cons (bi_any bi_refl))))))))))))
/-! ### _law_is_rule -/
noncomputable def m__law_is_rule : RRule × ((List Nat) × (List ((List Nat) × (List Nat))) × (List ((List Nat) × (List Nat))) × (List (List Nat)) × (List ((List Nat) × (List Nat))) × (List ((List Nat) × (List Nat))) × (List ((List Nat) × (List Nat))) × (List ((List Nat) × (List Nat))) × Unit) × Unit → Res Bool := kRun (S := RRule × ((List Nat) × (List ((List Nat) × (List Nat))) × (List ((List Nat) × (List Nat))) × (List (List Nat)) × (List ((List Nat) × (List Nat))) × (List ((List Nat) × (List Nat))) × (List ((List Nat) × (List Nat))) × (List ((List Nat) × (List Nat))) × Unit) × Unit) (S' := Unit) (L := Unit) (kSeq (kIf (kOr (kCmp mNe (kF (fun x => x.1.1.1.1.1.1.1.2) (kV gZ)) (kF (fun x => x.1) (kV (gS gZ)))) (kOr (kF (fun x => !x) (kF (fun _ => true) (kF (fun x => x.1.1.1.1.2) (kV gZ)))) (kCmp mNe (kF (fun x => x.1.1.1.1.2) (kV gZ)) (kU (fun x => .ok x) (kF (fun x => x.2.2.2.1) (kV (gS gZ))))))) (kRet (kC false)) kNx) (kSeq (kIf (kOr (kF (fun x => !x) (kU m__law_is_kept (kPair (kF (fun x => x.1.1.1.1.1.1.2) (kV gZ)) (kPair (kF (fun x => x.2.1) (kV (gS gZ))) kU0)))) (kF (fun x => !x) (kU m__law_is_kept (kPair (kF (fun x => x.1.1.1.1.1.2) (kV gZ)) (kPair (kF (fun x => x.2.2.1) (kV (gS gZ))) kU0))))) (kRet (kC false)) kNx) (kSeq (kIf (kOr (kF (fun x => !x) (kU m__law_is_kept (kPair (kF (fun x => x.1.1.1.2) (kV gZ)) (kPair (kF (fun x => x.2.2.2.2.1) (kV (gS gZ))) kU0)))) (kF (fun x => !x) (kU m__law_is_kept (kPair (kF (fun x => x.1.1.2) (kV gZ)) (kPair (kF (fun x => x.2.2.2.2.2.1) (kV (gS gZ))) kU0))))) (kRet (kC false)) kNx) (kRet (kAnd (kU m__law_is_kept (kPair (kF (fun x => x.1.2) (kV gZ)) (kPair (kF (fun x => x.2.2.2.2.2.2.1) (kV (gS gZ))) kU0))) (kU m__law_is_kept (kPair (kF (fun x => x.2) (kV gZ)) (kPair (kF (fun x => x.2.2.2.2.2.2.2.1) (kV (gS gZ))) kU0)))))))) (iS (iS (iZ ()))) (fun _ => .bad)
abbrev s__law_is_rule : Stmt := (topS 35)
theorem sc__law_is_rule : FnScope ["_law_actual", "_law_rule_here"] ["_law_actual", "_law_rule_here"] (defScope s__law_is_rule) := ⟨rfl, rfl, rfl, by decide +kernel, rfl, by decide +kernel, by decide +kernel⟩
theorem ok__law_is_rule {f : Addr} {fd : FuncData} (D : DefAt K mg "_law_is_rule" s__law_is_rule ["_law_actual", "_law_rule_here"] f fd) (U : Uses K mg) {CRule : Addr} {fi_Rule : Addr} {fdi_Rule : FuncData} (ORule : IniAtK K mg "Rule" "Rule.__init__" s_Rule ["self", "name", "actors", "everyone", "born", "conditions", "effects", "hears", "sends"] 2 ["everyone", "born", "conditions", "effects", "hears", "sends"] CRule fi_Rule fdi_Rule) (NRule : NARule K CRule) (I_Rule : FnOk P w K mg base (L2.CX P w) 2 fi_Rule fdi_Rule ["self", "name", "actors", "everyone", "born", "conditions", "effects", "hears", "sends"] (spI (XRm mg) CRule frRule (acons (fz tTxt) (acons (fz (tLst (tP2 tTxt tTxt))) (acons (fz (tLst (tP2 tTxt tTxt))) (acons (fz (tLst tTxt)) (acons (fz (tLst (tP2 tTxt tTxt))) (acons (fz (tLst (tP2 tTxt tTxt))) (acons (fz (tLst (tP2 tTxt tTxt))) (acons (fz (tLst (tP2 tTxt tTxt))) anil)))))))) m_Rule)) {f__law_is_kept : Addr} {fd__law_is_kept : FuncData} (D__law_is_kept : DefAt K mg "_law_is_kept" s__law_is_kept ["_law_actual", "_law_expected"] f__law_is_kept fd__law_is_kept) (G__law_is_kept : FnOk P w K mg base (L2.CX P w) 1 f__law_is_kept fd__law_is_kept ["_law_actual", "_law_expected"] (spP (XRm mg) (acons (fz (tTup (tP2 tTxt tTxt))) (acons (fz (tLst (tP2 tTxt tTxt))) anil)) (fz tBool) m__law_is_kept)) : FnOk P w K mg base (L2.CX P w) 2 f fd ["_law_actual", "_law_rule_here"] (spP (XRm mg) (acons (fz (tyRule CRule)) (acons (fz (tH (hcons tTxt (hcons (tLst (tP2 tTxt tTxt)) (hcons (tLst (tP2 tTxt tTxt)) (hcons (tLst tTxt) (hcons (tLst (tP2 tTxt tTxt)) (hcons (tLst (tP2 tTxt tTxt)) (hcons (tLst (tP2 tTxt tTxt)) (hcons (tLst (tP2 tTxt tTxt)) hnil)))))))))) anil)) (fz tBool) m__law_is_rule) :=
  fn_okK (G1 := fun _ => gnil) D.F sc__law_is_rule rfl rfl (fun _ => (st_cons (st_cons (st_nil any_nil)))) (fun _ => fall_bad) (fun _ cdv A outer s H E hr =>
    (ss_cons (sm_if (tm_b (bm_or (tm_c (cm_neS scTxt) (nomark _) (em_fld (em_var rfl (.inl rfl) At.z) (has_s (by decide +kernel) (has_s (by decide +kernel) (has_s (by decide +kernel) (has_s (by decide +kernel) (has_s (by decide +kernel) (has_s (by decide +kernel) (has_s (by decide +kernel) has_z))))))) ORule.cl NRule.name) (em_hix hat_z rfl (em_var rfl (.inl rfl) (At.s At.z)))) (bm_or (tm_not (tm_val (em_isC (by rfl) U.isinstance (by rfl) U.tuple (by decide +kernel) is_tup (em_fld (em_var rfl (.inl rfl) At.z) (has_s (by decide +kernel) (has_s (by decide +kernel) (has_s (by decide +kernel) (has_s (by decide +kernel) has_z)))) ORule.cl NRule.born)))) (bm_or1 (tm_c (cm_neD (eqTup eqTxt) hr.units (by show (0 + 1) ≤ 64; decide)) (nomark _) (em_fld (em_var rfl (.inl rfl) At.z) (has_s (by decide +kernel) (has_s (by decide +kernel) (has_s (by decide +kernel) (has_s (by decide +kernel) has_z)))) ORule.cl NRule.born) (em_tupL (by rfl) U.tuple (em_hix (hat_s (hat_s (hat_s hat_z))) rfl (em_var rfl (.inl rfl) (At.s At.z))))))))) (ss_one (sm_retP em_bool)) (ss_nilI MvI.refl)) (ss_cons (sm_if (tm_b (bm_or (tm_not (tm_val (em_call (takes_of rfl rfl rfl rfl) G__law_is_kept (hr.mono (by decide)) (by rfl) D__law_is_kept.g D__law_is_kept.F.kp D__law_is_kept.b (am_cons (em_fld (em_var rfl (.inl rfl) At.z) (has_s (by decide +kernel) (has_s (by decide +kernel) (has_s (by decide +kernel) (has_s (by decide +kernel) (has_s (by decide +kernel) (has_s (by decide +kernel) has_z)))))) ORule.cl NRule.actors) (am_cons (em_hix (hat_s hat_z) rfl (em_var rfl (.inl rfl) (At.s At.z))) am_nil))))) (bm_or1 (tm_not (tm_val (em_call (takes_of rfl rfl rfl rfl) G__law_is_kept (hr.mono (by decide)) (by rfl) D__law_is_kept.g D__law_is_kept.F.kp D__law_is_kept.b (am_cons (em_fld (em_var rfl (.inl rfl) At.z) (has_s (by decide +kernel) (has_s (by decide +kernel) (has_s (by decide +kernel) (has_s (by decide +kernel) (has_s (by decide +kernel) has_z))))) ORule.cl NRule.everyone) (am_cons (em_hix (hat_s (hat_s hat_z)) rfl (em_var rfl (.inl rfl) (At.s At.z))) am_nil)))))))) (ss_one (sm_retP em_bool)) (ss_nilI MvI.refl)) (ss_cons (sm_if (tm_b (bm_or (tm_not (tm_val (em_call (takes_of rfl rfl rfl rfl) G__law_is_kept (hr.mono (by decide)) (by rfl) D__law_is_kept.g D__law_is_kept.F.kp D__law_is_kept.b (am_cons (em_fld (em_var rfl (.inl rfl) At.z) (has_s (by decide +kernel) (has_s (by decide +kernel) (has_s (by decide +kernel) has_z))) ORule.cl NRule.conditions) (am_cons (em_hix (hat_s (hat_s (hat_s (hat_s hat_z)))) rfl (em_var rfl (.inl rfl) (At.s At.z))) am_nil))))) (bm_or1 (tm_not (tm_val (em_call (takes_of rfl rfl rfl rfl) G__law_is_kept (hr.mono (by decide)) (by rfl) D__law_is_kept.g D__law_is_kept.F.kp D__law_is_kept.b (am_cons (em_fld (em_var rfl (.inl rfl) At.z) (has_s (by decide +kernel) (has_s (by decide +kernel) has_z)) ORule.cl NRule.effects) (am_cons (em_hix (hat_s (hat_s (hat_s (hat_s (hat_s hat_z))))) rfl (em_var rfl (.inl rfl) (At.s At.z))) am_nil)))))))) (ss_one (sm_retP em_bool)) (ss_nilI MvI.refl)) (ss_one (sm_retP (em_and (em_call (takes_of rfl rfl rfl rfl) G__law_is_kept (hr.mono (by decide)) (by rfl) D__law_is_kept.g D__law_is_kept.F.kp D__law_is_kept.b (am_cons (em_fld (em_var rfl (.inl rfl) At.z) (has_s (by decide +kernel) has_z) ORule.cl NRule.hears) (am_cons (em_hix (hat_s (hat_s (hat_s (hat_s (hat_s (hat_s hat_z)))))) rfl (em_var rfl (.inl rfl) (At.s At.z))) am_nil))) (em_one (em_call (takes_of rfl rfl rfl rfl) G__law_is_kept (hr.mono (by decide)) (by rfl) D__law_is_kept.g D__law_is_kept.F.kp D__law_is_kept.b (am_cons (em_fld (em_var rfl (.inl rfl) At.z) has_z ORule.cl NRule.sends) (am_cons (em_hix (hat_s (hat_s (hat_s (hat_s (hat_s (hat_s (hat_s hat_z))))))) rfl (em_var rfl (.inl rfl) (At.s At.z))) am_nil)))))))))))
/-! ### _law_is_system -/
noncomputable def m__law_is_system : RSystem × ((List (List Nat)) × (List Nat) × (List ((List Nat) × (List (List Nat)))) × (List ((List Nat) × (List (List Nat)))) × (List ((List Nat) × (List ((List Nat) × (List Nat))) × (List ((List Nat) × (List Nat))) × (List (List Nat)) × (List ((List Nat) × (List Nat))) × (List ((List Nat) × (List Nat))) × (List ((List Nat) × (List Nat))) × (List ((List Nat) × (List Nat))) × Unit)) × (List ((List ((List Nat) × Int)) × (List ((List Nat) × (List Nat))))) × Unit) × Unit → Res Bool := kRun (S := RSystem × ((List (List Nat)) × (List Nat) × (List ((List Nat) × (List (List Nat)))) × (List ((List Nat) × (List (List Nat)))) × (List ((List Nat) × (List ((List Nat) × (List Nat))) × (List ((List Nat) × (List Nat))) × (List (List Nat)) × (List ((List Nat) × (List Nat))) × (List ((List Nat) × (List Nat))) × (List ((List Nat) × (List Nat))) × (List ((List Nat) × (List Nat))) × Unit)) × (List ((List ((List Nat) × Int)) × (List ((List Nat) × (List Nat))))) × Unit) × Int × (List ((List ((List Nat) × Int)) × (List ((List Nat) × (List Nat))))) × ((List ((List Nat) × Int)) × (List ((List Nat) × (List Nat)))) × ((List Nat) × (List (List Nat))) × Unit) (S' := Unit) (L := Unit) (kSeq (kIf (kOr (kCmp mNe (kF (fun x => x.1.1.1.1.1.2) (kV gZ)) (kU (fun x => .ok x) (kF (fun x => x.1) (kV (gS gZ))))) (kOr (kCmp mNe (kF (fun x => x.1.1.1.1.2) (kV gZ)) (kF (fun x => x.2.1) (kV (gS gZ)))) (kCmp mNe (kF (fun x => (x.length : Int)) (kF (fun x => x.1.2) (kV gZ))) (kF (fun x => (x.length : Int)) (kF (fun x => x.2.2.2.2.1) (kV (gS gZ))))))) (kRet (kC false)) kNx) (kSeq (kIf (kCmp mNe (kF (fun x => x.1.1.1.2) (kV gZ)) (kU (fun x => .ok x) (kLc (kF (fun x => x.2.2.1) (kV (gS gZ))) (pS (pS (pS (pS (pS pZ))))) (kF (fun x => (x.1, x.2.1)) (kPair (kF (fun x => x.1) (kV (gS (gS (gS (gS (gS gZ))))))) (kPair (kU (fun x => .ok x) (kF (fun x => x.2) (kV (gS (gS (gS (gS (gS gZ)))))))) kU0)))))) (kRet (kC false)) kNx) (kSeq (kIf (kCmp mNe (kF (fun x => x.1.1.2) (kV gZ)) (kU (fun x => .ok x) (kLc (kF (fun x => x.2.2.2.1) (kV (gS gZ))) (pS (pS (pS (pS (pS pZ))))) (kF (fun x => (x.1, x.2.1)) (kPair (kF (fun x => x.1) (kV (gS (gS (gS (gS (gS gZ))))))) (kPair (kU (fun x => .ok x) (kF (fun x => x.2) (kV (gS (gS (gS (gS (gS gZ)))))))) kU0)))))) (kRet (kC false)) kNx) (kSeq (kFor (kRange1 (kF (fun x => (x.length : Int)) (kF (fun x => x.2.2.2.2.1) (kV (gS gZ))))) (pS (pS pZ)) (kSeq (kIf (kF (fun x => !x) (kU m__law_is_rule (kPair (kB mIx (kF (fun x => x.1.2) (kV gZ)) (kV (gS (gS gZ)))) (kPair (kB mIx (kF (fun x => x.2.2.2.2.1) (kV (gS gZ))) (kV (gS (gS gZ)))) kU0)))) (kRet (kC false)) kNx) kNx)) (kSeq (kSet (kLc (kF (fun x => x.2.2.2.2.2.1) (kV (gS gZ))) (pS (pS (pS (pS pZ)))) (kF (fun x => (x.1, x.2.1)) (kPair (kU (fun x => .ok x) (kF (fun x => x.1) (kV (gS (gS (gS (gS gZ))))))) (kPair (kU (fun x => .ok x) (kF (fun x => x.2) (kV (gS (gS (gS (gS gZ))))))) kU0)))) (pS (pS (pS pZ)))) (kRet (kAnd (kF (fun _ => true) (kF (fun x => x.1.2) (kV gZ))) (kCmp mEq (kF (fun x => x.2) (kV gZ)) (kV (gS (gS (gS gZ)))))))))))) (iS (iS (iZ (0, [], ([], []), ([], []), ())))) (fun _ => .bad)
noncomputable def l__law_is_system_7 : (RSystem × ((List (List Nat)) × (List Nat) × (List ((List Nat) × (List (List Nat)))) × (List ((List Nat) × (List (List Nat)))) × (List ((List Nat) × (List ((List Nat) × (List Nat))) × (List ((List Nat) × (List Nat))) × (List (List Nat)) × (List ((List Nat) × (List Nat))) × (List ((List Nat) × (List Nat))) × (List ((List Nat) × (List Nat))) × (List ((List Nat) × (List Nat))) × Unit)) × (List ((List ((List Nat) × Int)) × (List ((List Nat) × (List Nat))))) × Unit) × Int × (List ((List ((List Nat) × Int)) × (List ((List Nat) × (List Nat))))) × ((List ((List Nat) × Int)) × (List ((List Nat) × (List Nat)))) × ((List Nat) × (List (List Nat))) × Unit) → Out (RSystem × ((List (List Nat)) × (List Nat) × (List ((List Nat) × (List (List Nat)))) × (List ((List Nat) × (List (List Nat)))) × (List ((List Nat) × (List ((List Nat) × (List Nat))) × (List ((List Nat) × (List Nat))) × (List (List Nat)) × (List ((List Nat) × (List Nat))) × (List ((List Nat) × (List Nat))) × (List ((List Nat) × (List Nat))) × (List ((List Nat) × (List Nat))) × Unit)) × (List ((List ((List Nat) × Int)) × (List ((List Nat) × (List Nat))))) × Unit) × Int × (List ((List ((List Nat) × Int)) × (List ((List Nat) × (List Nat))))) × ((List ((List Nat) × Int)) × (List ((List Nat) × (List Nat)))) × ((List Nat) × (List (List Nat))) × Unit) (RSystem × ((List (List Nat)) × (List Nat) × (List ((List Nat) × (List (List Nat)))) × (List ((List Nat) × (List (List Nat)))) × (List ((List Nat) × (List ((List Nat) × (List Nat))) × (List ((List Nat) × (List Nat))) × (List (List Nat)) × (List ((List Nat) × (List Nat))) × (List ((List Nat) × (List Nat))) × (List ((List Nat) × (List Nat))) × (List ((List Nat) × (List Nat))) × Unit)) × (List ((List ((List Nat) × Int)) × (List ((List Nat) × (List Nat))))) × Unit) × Int × (List ((List ((List Nat) × Int)) × (List ((List Nat) × (List Nat))))) × ((List ((List Nat) × Int)) × (List ((List Nat) × (List Nat)))) × ((List Nat) × (List (List Nat))) × Unit) Bool := (kSeq (kIf (kF (fun x => !x) (kU m__law_is_rule (kPair (kB mIx (kF (fun x => x.1.2) (kV gZ)) (kV (gS (gS gZ)))) (kPair (kB mIx (kF (fun x => x.2.2.2.2.1) (kV (gS gZ))) (kV (gS (gS gZ)))) kU0)))) (kRet (kC false)) kNx) kNx)
theorem n__law_is_system : m__law_is_system = kRun (S := RSystem × ((List (List Nat)) × (List Nat) × (List ((List Nat) × (List (List Nat)))) × (List ((List Nat) × (List (List Nat)))) × (List ((List Nat) × (List ((List Nat) × (List Nat))) × (List ((List Nat) × (List Nat))) × (List (List Nat)) × (List ((List Nat) × (List Nat))) × (List ((List Nat) × (List Nat))) × (List ((List Nat) × (List Nat))) × (List ((List Nat) × (List Nat))) × Unit)) × (List ((List ((List Nat) × Int)) × (List ((List Nat) × (List Nat))))) × Unit) × Int × (List ((List ((List Nat) × Int)) × (List ((List Nat) × (List Nat))))) × ((List ((List Nat) × Int)) × (List ((List Nat) × (List Nat)))) × ((List Nat) × (List (List Nat))) × Unit) (S' := Unit) (L := Unit) (kSeq (kIf (kOr (kCmp mNe (kF (fun x => x.1.1.1.1.1.2) (kV gZ)) (kU (fun x => .ok x) (kF (fun x => x.1) (kV (gS gZ))))) (kOr (kCmp mNe (kF (fun x => x.1.1.1.1.2) (kV gZ)) (kF (fun x => x.2.1) (kV (gS gZ)))) (kCmp mNe (kF (fun x => (x.length : Int)) (kF (fun x => x.1.2) (kV gZ))) (kF (fun x => (x.length : Int)) (kF (fun x => x.2.2.2.2.1) (kV (gS gZ))))))) (kRet (kC false)) kNx) (kSeq (kIf (kCmp mNe (kF (fun x => x.1.1.1.2) (kV gZ)) (kU (fun x => .ok x) (kLc (kF (fun x => x.2.2.1) (kV (gS gZ))) (pS (pS (pS (pS (pS pZ))))) (kF (fun x => (x.1, x.2.1)) (kPair (kF (fun x => x.1) (kV (gS (gS (gS (gS (gS gZ))))))) (kPair (kU (fun x => .ok x) (kF (fun x => x.2) (kV (gS (gS (gS (gS (gS gZ)))))))) kU0)))))) (kRet (kC false)) kNx) (kSeq (kIf (kCmp mNe (kF (fun x => x.1.1.2) (kV gZ)) (kU (fun x => .ok x) (kLc (kF (fun x => x.2.2.2.1) (kV (gS gZ))) (pS (pS (pS (pS (pS pZ))))) (kF (fun x => (x.1, x.2.1)) (kPair (kF (fun x => x.1) (kV (gS (gS (gS (gS (gS gZ))))))) (kPair (kU (fun x => .ok x) (kF (fun x => x.2) (kV (gS (gS (gS (gS (gS gZ)))))))) kU0)))))) (kRet (kC false)) kNx) (kSeq (kFor (kRange1 (kF (fun x => (x.length : Int)) (kF (fun x => x.2.2.2.2.1) (kV (gS gZ))))) (pS (pS pZ)) l__law_is_system_7) (kSeq (kSet (kLc (kF (fun x => x.2.2.2.2.2.1) (kV (gS gZ))) (pS (pS (pS (pS pZ)))) (kF (fun x => (x.1, x.2.1)) (kPair (kU (fun x => .ok x) (kF (fun x => x.1) (kV (gS (gS (gS (gS gZ))))))) (kPair (kU (fun x => .ok x) (kF (fun x => x.2) (kV (gS (gS (gS (gS gZ))))))) kU0)))) (pS (pS (pS pZ)))) (kRet (kAnd (kF (fun _ => true) (kF (fun x => x.1.2) (kV gZ))) (kCmp mEq (kF (fun x => x.2) (kV gZ)) (kV (gS (gS (gS gZ)))))))))))) (iS (iS (iZ (0, [], ([], []), ([], []), ())))) (fun _ => .bad) := rfl
abbrev s__law_is_system : Stmt := (topS 36)
theorem sc__law_is_system : FnScope ["_law_found", "_law_parts", "_law_k", "_law_patterns", "_law_pattern_here", "_law_pair"] ["_law_found", "_law_parts"] (defScope s__law_is_system) := ⟨rfl, rfl, rfl, by decide +kernel, rfl, by decide +kernel, by decide +kernel⟩
theorem ok__law_is_system {f : Addr} {fd : FuncData} (D : DefAt K mg "_law_is_system" s__law_is_system ["_law_found", "_law_parts"] f fd) (U : Uses K mg) {CRule : Addr} {fi_Rule : Addr} {fdi_Rule : FuncData} (ORule : IniAtK K mg "Rule" "Rule.__init__" s_Rule ["self", "name", "actors", "everyone", "born", "conditions", "effects", "hears", "sends"] 2 ["everyone", "born", "conditions", "effects", "hears", "sends"] CRule fi_Rule fdi_Rule) (NRule : NARule K CRule) {CSystem : Addr} {fi_System : Addr} {fdi_System : FuncData} (OSystem : IniAtK K mg "System" "System.__init__" s_System ["self", "states", "start", "variables", "rules", "bad", "channels"] 5 ["channels"] CSystem fi_System fdi_System) (NSystem : NASystem K CSystem) (I_System : FnOk P w K mg base (L2.CX P w) 4 fi_System fdi_System ["self", "states", "start", "variables", "rules", "bad", "channels"] (spI (XRm mg) CSystem (frSystem CRule) (acons (fz (tLst tTxt)) (acons (fz tTxt) (acons (fz (tLst (tP2 tTxt (tLst tTxt)))) (acons (fz (tLst (tyRule CRule))) (acons (fz (tLst (tP2 (tLst (tP2 tTxt tInt)) (tLst (tP2 tTxt tTxt))))) (acons (fz (tLst (tP2 tTxt (tLst tTxt)))) anil)))))) m_System)) {f__law_is_rule : Addr} {fd__law_is_rule : FuncData} (D__law_is_rule : DefAt K mg "_law_is_rule" s__law_is_rule ["_law_actual", "_law_rule_here"] f__law_is_rule fd__law_is_rule) (G__law_is_rule : FnOk P w K mg base (L2.CX P w) 2 f__law_is_rule fd__law_is_rule ["_law_actual", "_law_rule_here"] (spP (XRm mg) (acons (fz (tyRule CRule)) (acons (fz (tH (hcons tTxt (hcons (tLst (tP2 tTxt tTxt)) (hcons (tLst (tP2 tTxt tTxt)) (hcons (tLst tTxt) (hcons (tLst (tP2 tTxt tTxt)) (hcons (tLst (tP2 tTxt tTxt)) (hcons (tLst (tP2 tTxt tTxt)) (hcons (tLst (tP2 tTxt tTxt)) hnil)))))))))) anil)) (fz tBool) m__law_is_rule)) : FnOk P w K mg base (L2.CX P w) 3 f fd ["_law_found", "_law_parts"] (spP (XRm mg) (acons (fz (tySystem CSystem CRule)) (acons (fz (tH (hcons (tLst tTxt) (hcons tTxt (hcons (tLst (tP2 tTxt (tLst tTxt))) (hcons (tLst (tP2 tTxt (tLst tTxt))) (hcons (tLst (tH (hcons tTxt (hcons (tLst (tP2 tTxt tTxt)) (hcons (tLst (tP2 tTxt tTxt)) (hcons (tLst tTxt) (hcons (tLst (tP2 tTxt tTxt)) (hcons (tLst (tP2 tTxt tTxt)) (hcons (tLst (tP2 tTxt tTxt)) (hcons (tLst (tP2 tTxt tTxt)) hnil)))))))))) (hcons (tLst (tP2 (tLst (tP2 tTxt tInt)) (tLst (tP2 tTxt tTxt)))) hnil)))))))) anil)) (fz tBool) m__law_is_system) :=
  fn_okK (G1 := fun _ => gnil) D.F sc__law_is_system rfl rfl (fun _ => (st_cons (st_cons (st_nil (any_cons (any_cons (any_cons (any_cons any_nil)))))))) (fun _ => fall_bad) (fun _ cdv A outer s H E hr =>
    (ss_cons (sm_if (tm_b (bm_or (tm_c (cm_neD (eqTup eqTxt) hr.units (by show (0 + 1) ≤ 64; decide)) (nomark _) (em_fld (em_var rfl (.inl rfl) At.z) (has_s (by decide +kernel) (has_s (by decide +kernel) (has_s (by decide +kernel) (has_s (by decide +kernel) (has_s (by decide +kernel) has_z))))) OSystem.cl NSystem.states) (em_tupL (by rfl) U.tuple (em_hix hat_z rfl (em_var rfl (.inl rfl) (At.s At.z))))) (bm_or (tm_c (cm_neS scTxt) (nomark _) (em_fld (em_var rfl (.inl rfl) At.z) (has_s (by decide +kernel) (has_s (by decide +kernel) (has_s (by decide +kernel) (has_s (by decide +kernel) has_z)))) OSystem.cl NSystem.start) (em_hix (hat_s hat_z) rfl (em_var rfl (.inl rfl) (At.s At.z)))) (bm_or1 (tm_c (cm_neS scInt) (nomark _) (em_lenT (by rfl) U.len (em_fld (em_var rfl (.inl rfl) At.z) (has_s (by decide +kernel) has_z) OSystem.cl NSystem.rules)) (em_len (by rfl) U.len (em_hix (hat_s (hat_s (hat_s (hat_s hat_z)))) rfl (em_var rfl (.inl rfl) (At.s At.z))))))))) (ss_one (sm_retP em_bool)) (ss_nilI MvI.refl)) (ss_cons (sm_if (tm_c (cm_neD (eqTup (eqP2 eqTxt (eqTup eqTxt))) hr.units (by show ((max 0 (0 + 1) + 1) + 1) ≤ 64; decide)) (nomark _) (em_fld (em_var rfl (.inl rfl) At.z) (has_s (by decide +kernel) (has_s (by decide +kernel) (has_s (by decide +kernel) has_z))) OSystem.cl NSystem.variables) (em_tupL (by rfl) U.tuple (em_freeze (em_lcK (own := [("_law_pair", 5)]) rfl sc__law_is_system.nd (im_list (em_hix (hat_s (hat_s hat_z)) rfl (em_var rfl (.inl rfl) (At.s At.z)))) (blkOk_by (N := ["_law_found", "_law_parts", "_law_k", "_law_patterns", "_law_pattern_here", "_law_pair"]) (sc := (defScope s__law_is_system)) (by decide +kernel)) (ko_keep (by decide) (ko_keep (by decide) (ko_any (ko_any (ko_any (ko_any ko_nil)))))) (fun _ _ _ _ _ => (tgt_name sc__law_is_system.nd rfl (.inl (by rfl)) (At.s (At.s (At.s (At.s (At.s At.z))))) (.inr (by rfl)))) (fun _ _ _ _ _ => (em_tup2 (am_cons (em_p0 (em_var rfl (.inl (by rfl)) (At.s (At.s (At.s (At.s (At.s At.z))))))) (am_cons (em_tupL (by rfl) U.tuple (em_p1 (em_var rfl (.inl (by rfl)) (At.s (At.s (At.s (At.s (At.s At.z)))))))) am_nil)))) (bi_cons (bi_cons (bi_cons (bi_cons (bi_cons (bi_any bi_refl)))))))))) (ss_one (sm_retP em_bool)) (ss_nilI MvI.refl)) (ss_cons (sm_if (tm_c (cm_neD (eqTup (eqP2 eqTxt (eqTup eqTxt))) hr.units (by show ((max 0 (0 + 1) + 1) + 1) ≤ 64; decide)) (nomark _) (em_fld (em_var rfl (.inl rfl) At.z) (has_s (by decide +kernel) (has_s (by decide +kernel) has_z)) OSystem.cl NSystem.channels) (em_tupL (by rfl) U.tuple (em_freeze (em_lcK (own := [("_law_pair", 5)]) rfl sc__law_is_system.nd (im_list (em_hix (hat_s (hat_s (hat_s hat_z))) rfl (em_var rfl (.inl rfl) (At.s At.z)))) (blkOk_by (N := ["_law_found", "_law_parts", "_law_k", "_law_patterns", "_law_pattern_here", "_law_pair"]) (sc := (defScope s__law_is_system)) (by decide +kernel)) (ko_keep (by decide) (ko_keep (by decide) (ko_any (ko_any (ko_any (ko_any ko_nil)))))) (fun _ _ _ _ _ => (tgt_name sc__law_is_system.nd rfl (.inl (by rfl)) (At.s (At.s (At.s (At.s (At.s At.z))))) (.inr (by rfl)))) (fun _ _ _ _ _ => (em_tup2 (am_cons (em_p0 (em_var rfl (.inl (by rfl)) (At.s (At.s (At.s (At.s (At.s At.z))))))) (am_cons (em_tupL (by rfl) U.tuple (em_p1 (em_var rfl (.inl (by rfl)) (At.s (At.s (At.s (At.s (At.s At.z)))))))) am_nil)))) (bi_cons (bi_cons (bi_cons (bi_cons (bi_cons (bi_any bi_refl)))))))))) (ss_one (sm_retP em_bool)) (ss_nilI MvI.refl)) (ss_cons (sm_forI (passes_of rfl) rfl (im_range1 (by rfl) U.range (em_len (by rfl) U.len (em_hix (hat_s (hat_s (hat_s (hat_s hat_z)))) rfl (em_var rfl (.inl rfl) (At.s At.z))))) MvI.refl (tgt_name sc__law_is_system.nd rfl (.inl rfl) (At.s (At.s At.z)) (.inl rfl)) (ss_cons (sm_if (tm_not (tm_val (em_call (takes_of rfl rfl rfl rfl) G__law_is_rule (hr.mono (by decide)) (by rfl) D__law_is_rule.g D__law_is_rule.F.kp D__law_is_rule.b (am_cons (em_ixT (fun _ _ => rfl) (em_fld (em_var rfl (.inl rfl) At.z) (has_s (by decide +kernel) has_z) OSystem.cl NSystem.rules) (em_var rfl (.inl rfl) (At.s (At.s At.z)))) (am_cons (em_ixL (fun _ _ => rfl) (em_hix (hat_s (hat_s (hat_s (hat_s hat_z)))) rfl (em_var rfl (.inl rfl) (At.s At.z))) (em_var rfl (.inl rfl) (At.s (At.s At.z)))) am_nil))))) (ss_one (sm_retP em_bool)) (ss_nilI MvI.refl)) (ss_nilI (MvI.cons SMvI.refl (MvI.cons SMvI.refl (MvI.cons SMvI.hide MvI.refl)))))) (ss_cons (sm_setLcK (own := [("_law_pattern_here", 4)]) rfl sc__law_is_system.nd rfl rfl (At.s (At.s (At.s At.z))) (sw_true rfl rfl rfl (by decide +kernel)) (im_list (em_hix (hat_s (hat_s (hat_s (hat_s (hat_s hat_z))))) rfl (em_var rfl (.inl rfl) (At.s At.z)))) (blkOk_by (N := ["_law_found", "_law_parts", "_law_k", "_law_patterns", "_law_pattern_here", "_law_pair"]) (sc := (defScope s__law_is_system)) (by decide +kernel)) (ko_keep (by decide) (ko_keep (by decide) (ko_any (ko_any (ko_any (ko_any ko_nil)))))) (fun _ _ _ _ _ => (tgt_name sc__law_is_system.nd rfl (.inl (by rfl)) (At.s (At.s (At.s (At.s At.z)))) (.inr (by rfl)))) (fun _ _ _ _ _ => (em_tup2 (am_cons (em_tupL (by rfl) U.tuple (em_p0 (em_var rfl (.inl (by rfl)) (At.s (At.s (At.s (At.s At.z))))))) (am_cons (em_tupL (by rfl) U.tuple (em_p1 (em_var rfl (.inl (by rfl)) (At.s (At.s (At.s (At.s At.z))))))) am_nil)))) (bi_cons (bi_cons (bi_cons (bi_cons (bi_any bi_refl)))))) (ss_one (sm_retP (em_and (em_isC (by rfl) U.isinstance (by rfl) U.tuple (by decide +kernel) is_tup (em_fld (em_var rfl (.inl rfl) At.z) (has_s (by decide +kernel) has_z) OSystem.cl NSystem.rules)) (em_one (em_c (cm_eqD (eqTup (eqP2 (eqTup (eqP2 eqTxt eqInt)) (eqTup (eqP2 eqTxt eqTxt)))) hr.units (by show ((max ((max 0 0 + 1) + 1) ((max 0 0 + 1) + 1) + 1) + 1) ≤ 64; decide)) (nomark _) (em_fld (em_var rfl (.inl rfl) At.z) has_z OSystem.cl NSystem.bad) (em_tupO (by rfl) U.tuple rfl (.inl rfl) (At.s (At.s (At.s At.z)))))))))))))))
/-! ### law -/
noncomputable def m_law : (List Int) × Unit → Res Bool := kRun (S := (List Int) × (List Int) × ((List (List Nat)) × (List Nat) × (List ((List Nat) × (List (List Nat)))) × (List ((List Nat) × (List (List Nat)))) × (List ((List Nat) × (List ((List Nat) × (List Nat))) × (List ((List Nat) × (List Nat))) × (List (List Nat)) × (List ((List Nat) × (List Nat))) × (List ((List Nat) × (List Nat))) × (List ((List Nat) × (List Nat))) × (List ((List Nat) × (List Nat))) × Unit)) × (List ((List ((List Nat) × Int)) × (List ((List Nat) × (List Nat))))) × Unit) × (Option RSystem) × (List (List Nat)) × (List Nat) × Bool × Bool × Unit) (S' := Unit) (L := Unit) (kSeq (kSet (kU m__law_draws (kPair (kV gZ) (kPair (kC (250 : Int)) kU0))) (pS pZ)) (kSeq (kSet (kCallL m__law_system (gS gZ) (pS pZ) (kPair (kC (3 : Int)) (kPair (kC true) kU0))) (pS (pS pZ))) (kSeq (kIf (kCmp mEq (kCallL m__law_take (gS gZ) (pS pZ) (kPair (kC (2 : Int)) kU0)) (kC (0 : Int))) (kRet (kF Option.isNone (kU m__law_outcome (kPair (kCallL m__law_spoilt (gS gZ) (pS pZ) (kPair (kV (gS (gS gZ))) kU0)) kU0)))) kNx) (kSeq (kSet (kU m__law_outcome (kPair (kV (gS (gS gZ))) kU0)) (pS (pS (pS pZ)))) (kSeq (kIf (kOr (kF Option.isNone (kV (gS (gS (gS gZ))))) (kF (fun x => !x) (kU m__law_is_system (kPair (kU mSome (kV (gS (gS (gS gZ))))) (kPair (kV (gS (gS gZ))) kU0))))) (kRet (kC false)) kNx) (kSeq (kSet (kCons (kC ([97] : List Nat)) (kCons (kC ([97, 49] : List Nat)) (kCons (kC ([105, 102] : List Nat)) (kCons (kC ([97, 108, 108] : List Nat)) (kCons (kC ([110, 101, 119] : List Nat)) (kCons (kC ([115, 101, 116] : List Nat)) (kCons (kC ([104, 101, 97, 114] : List Nat)) (kCons (kC ([115, 101, 110, 100] : List Nat)) (kCons (kC ([108, 111, 115, 101] : List Nat)) (kCons (kC ([103, 111, 110, 101] : List Nat)) (kCons (kC ([] : List Nat)) (kCons (kC ([49, 97] : List Nat)) (kCons (kC ([65] : List Nat)) (kCons (kC ([97, 66] : List Nat)) (kCons (kC ([97, 32, 98] : List Nat)) (kCons (kC ([114, 117, 108, 101] : List Nat)) (kCons (kC ([98, 97, 100] : List Nat)) kNil))))))))))))))))) (pS (pS (pS (pS pZ))))) (kSeq (kSet (kB mIx (kV (gS (gS (gS (gS gZ))))) (kCallL m__law_take (gS gZ) (pS pZ) (kPair (kC (17 : Int)) kU0))) (pS (pS (pS (pS (pS pZ)))))) (kSeq (kSet (kCmp mIn (kV (gS (gS (gS (gS (gS gZ)))))) (kCons (kC ([97] : List Nat)) (kCons (kC ([97, 49] : List Nat)) (kCons (kC ([114, 117, 108, 101] : List Nat)) (kCons (kC ([98, 97, 100] : List Nat)) kNil))))) (pS (pS (pS (pS (pS (pS pZ))))))) (kSeq (kSet (kU m_is_name (kPair (kV (gS (gS (gS (gS (gS gZ)))))) kU0)) (pS (pS (pS (pS (pS (pS (pS pZ)))))))) (kRet (kAnd (kF (fun _ => true) (kV (gS (gS (gS (gS (gS (gS (gS gZ))))))))) (kCmp mEq (kV (gS (gS (gS (gS (gS (gS (gS gZ)))))))) (kV (gS (gS (gS (gS (gS (gS gZ))))))))))))))))))) (iS (iZ ([], ([], [], [], [], [], [], ()), none, [], [], false, false, ()))) (fun _ => .bad)
abbrev s_law : Stmt := (topS 37)
theorem sc_law : FnScope ["_law_script", "_law_draws_here", "_law_parts", "_law_found", "_law_words", "_law_word", "_law_good", "_law_said"] ["_law_script"] (defScope s_law) := ⟨rfl, rfl, rfl, by decide +kernel, rfl, by decide +kernel, by decide +kernel⟩
theorem ok_law {f : Addr} {fd : FuncData} (D : DefAt K mg "law" s_law ["_law_script"] f fd) (U : Uses K mg) {CRule : Addr} {fi_Rule : Addr} {fdi_Rule : FuncData} (ORule : IniAtK K mg "Rule" "Rule.__init__" s_Rule ["self", "name", "actors", "everyone", "born", "conditions", "effects", "hears", "sends"] 2 ["everyone", "born", "conditions", "effects", "hears", "sends"] CRule fi_Rule fdi_Rule) (NRule : NARule K CRule) {CSystem : Addr} {fi_System : Addr} {fdi_System : FuncData} (OSystem : IniAtK K mg "System" "System.__init__" s_System ["self", "states", "start", "variables", "rules", "bad", "channels"] 5 ["channels"] CSystem fi_System fdi_System) (NSystem : NASystem K CSystem) {f__law_draws : Addr} {fd__law_draws : FuncData} (D__law_draws : DefAt K mg "_law_draws" s__law_draws ["_law_script", "_law_count"] f__law_draws fd__law_draws) (G__law_draws : FnOk P w K mg base (L2.CX P w) 1 f__law_draws fd__law_draws ["_law_script", "_law_count"] (spP (XRm mg) (acons (fz (tScr K tInt)) (acons (fz tInt) anil)) (oL tInt) m__law_draws)) {f__law_is_system : Addr} {fd__law_is_system : FuncData} (D__law_is_system : DefAt K mg "_law_is_system" s__law_is_system ["_law_found", "_law_parts"] f__law_is_system fd__law_is_system) (G__law_is_system : FnOk P w K mg base (L2.CX P w) 3 f__law_is_system fd__law_is_system ["_law_found", "_law_parts"] (spP (XRm mg) (acons (fz (tySystem CSystem CRule)) (acons (fz (tH (hcons (tLst tTxt) (hcons tTxt (hcons (tLst (tP2 tTxt (tLst tTxt))) (hcons (tLst (tP2 tTxt (tLst tTxt))) (hcons (tLst (tH (hcons tTxt (hcons (tLst (tP2 tTxt tTxt)) (hcons (tLst (tP2 tTxt tTxt)) (hcons (tLst tTxt) (hcons (tLst (tP2 tTxt tTxt)) (hcons (tLst (tP2 tTxt tTxt)) (hcons (tLst (tP2 tTxt tTxt)) (hcons (tLst (tP2 tTxt tTxt)) hnil)))))))))) (hcons (tLst (tP2 (tLst (tP2 tTxt tInt)) (tLst (tP2 tTxt tTxt)))) hnil)))))))) anil)) (fz tBool) m__law_is_system)) {f__law_outcome : Addr} {fd__law_outcome : FuncData} (D__law_outcome : DefAt K mg "_law_outcome" s__law_outcome ["_law_parts"] f__law_outcome fd__law_outcome) (G__law_outcome : FnOk P w K mg base (L2.CX P w) 7 f__law_outcome fd__law_outcome ["_law_parts"] (spP (XRm mg) (acons (fz (tH (hcons (tLst tTxt) (hcons tTxt (hcons (tLst (tP2 tTxt (tLst tTxt))) (hcons (tLst (tP2 tTxt (tLst tTxt))) (hcons (tLst (tH (hcons tTxt (hcons (tLst (tP2 tTxt tTxt)) (hcons (tLst (tP2 tTxt tTxt)) (hcons (tLst tTxt) (hcons (tLst (tP2 tTxt tTxt)) (hcons (tLst (tP2 tTxt tTxt)) (hcons (tLst (tP2 tTxt tTxt)) (hcons (tLst (tP2 tTxt tTxt)) hnil)))))))))) (hcons (tLst (tP2 (tLst (tP2 tTxt tInt)) (tLst (tP2 tTxt tTxt)))) hnil)))))))) anil) (fz (tOpt (tySystem CSystem CRule))) m__law_outcome)) {f__law_spoilt : Addr} {fd__law_spoilt : FuncData} (D__law_spoilt : DefAt K mg "_law_spoilt" s__law_spoilt ["_law_draws_here", "_law_parts"] f__law_spoilt fd__law_spoilt) (G__law_spoilt : FnOk P w K mg base (L2.CX P w) 3 f__law_spoilt fd__law_spoilt ["_law_draws_here", "_law_parts"] (spL (XRm mg) tInt (acons (fz (tH (hcons (tLst tTxt) (hcons tTxt (hcons (tLst (tP2 tTxt (tLst tTxt))) (hcons (tLst (tP2 tTxt (tLst tTxt))) (hcons (tLst (tH (hcons tTxt (hcons (tLst (tP2 tTxt tTxt)) (hcons (tLst (tP2 tTxt tTxt)) (hcons (tLst tTxt) (hcons (tLst (tP2 tTxt tTxt)) (hcons (tLst (tP2 tTxt tTxt)) (hcons (tLst (tP2 tTxt tTxt)) (hcons (tLst (tP2 tTxt tTxt)) hnil)))))))))) (hcons (tLst (tP2 (tLst (tP2 tTxt tInt)) (tLst (tP2 tTxt tTxt)))) hnil)))))))) anil) (fz (tH (hcons (tLst tTxt) (hcons tTxt (hcons (tLst (tP2 tTxt (tLst tTxt))) (hcons (tLst (tP2 tTxt (tLst tTxt))) (hcons (tLst (tH (hcons tTxt (hcons (tLst (tP2 tTxt tTxt)) (hcons (tLst (tP2 tTxt tTxt)) (hcons (tLst tTxt) (hcons (tLst (tP2 tTxt tTxt)) (hcons (tLst (tP2 tTxt tTxt)) (hcons (tLst (tP2 tTxt tTxt)) (hcons (tLst (tP2 tTxt tTxt)) hnil)))))))))) (hcons (tLst (tP2 (tLst (tP2 tTxt tInt)) (tLst (tP2 tTxt tTxt)))) hnil)))))))) m__law_spoilt)) {f__law_system : Addr} {fd__law_system : FuncData} (D__law_system : DefAt K mg "_law_system" s__law_system ["_law_draws_here", "_law_most", "_law_mail"] f__law_system fd__law_system) (G__law_system : FnOk P w K mg base (L2.CX P w) 4 f__law_system fd__law_system ["_law_draws_here", "_law_most", "_law_mail"] (spL (XRm mg) tInt (acons (fz tInt) (acons (fz tBool) anil)) (fz (tH (hcons (tLst tTxt) (hcons tTxt (hcons (tLst (tP2 tTxt (tLst tTxt))) (hcons (tLst (tP2 tTxt (tLst tTxt))) (hcons (tLst (tH (hcons tTxt (hcons (tLst (tP2 tTxt tTxt)) (hcons (tLst (tP2 tTxt tTxt)) (hcons (tLst tTxt) (hcons (tLst (tP2 tTxt tTxt)) (hcons (tLst (tP2 tTxt tTxt)) (hcons (tLst (tP2 tTxt tTxt)) (hcons (tLst (tP2 tTxt tTxt)) hnil)))))))))) (hcons (tLst (tP2 (tLst (tP2 tTxt tInt)) (tLst (tP2 tTxt tTxt)))) hnil)))))))) m__law_system)) {f__law_take : Addr} {fd__law_take : FuncData} (D__law_take : DefAt K mg "_law_take" s__law_take ["_law_draws_here", "_law_limit"] f__law_take fd__law_take) (G__law_take : FnOk P w K mg base (L2.CX P w) 1 f__law_take fd__law_take ["_law_draws_here", "_law_limit"] (spL (XRm mg) tInt (acons (fz tInt) anil) (fz tInt) m__law_take)) {f_is_name : Addr} {fd_is_name : FuncData} (D_is_name : DefAt K mg "is_name" s_is_name ["word"] f_is_name fd_is_name) (G_is_name : FnOk P w K mg base (L2.CX P w) 1 f_is_name fd_is_name ["word"] (spP (XRm mg) (acons (fz tTxt) anil) (fz tBool) m_is_name)) : FnOk P w K mg base (L2.CX P w) 8 f fd ["_law_script"] (spP (XRm mg) (acons (fz (tScr K tInt)) anil) (fz tBool) m_law) :=
  fn_okK (G1 := fun _ => gnil) D.F sc_law rfl rfl (fun _ => (st_cons (st_nil (any_cons (any_cons (any_cons (any_cons (any_cons (any_cons (any_cons any_nil)))))))))) (fun _ => fall_bad) (fun _ cdv A outer s H E hr =>
    (ss_cons (sm_set sc_law.nd rfl (.inl rfl) (At.s At.z) (em_call (takes_of rfl rfl rfl rfl) G__law_draws (hr.mono (by decide)) (by rfl) D__law_draws.g D__law_draws.F.kp D__law_draws.b (am_cons (em_var rfl (.inl rfl) At.z) (am_cons em_int am_nil))) (hf := .inl rfl)) (ss_cons (sm_set sc_law.nd rfl (.inl rfl) (At.s (At.s At.z)) (em_callL (takes_of rfl rfl rfl rfl) G__law_system (hr.mono (by decide)) (by rfl) D__law_system.g D__law_system.F.kp D__law_system.b rfl (.inl rfl) (At.s At.z) (am_cons em_int (am_cons em_bool am_nil))) (hf := .inl rfl)) (ss_cons (sm_if (tm_c (cm_eqS scInt) (nomark _) (em_callL (takes_of rfl rfl rfl rfl) G__law_take (hr.mono (by decide)) (by rfl) D__law_take.g D__law_take.F.kp D__law_take.b rfl (.inl rfl) (At.s At.z) (am_cons em_int am_nil)) em_int) (ss_one (sm_retP (em_isN (em_call (takes_of rfl rfl rfl rfl) G__law_outcome (hr.mono (by decide)) (by rfl) D__law_outcome.g D__law_outcome.F.kp D__law_outcome.b (am_cons (em_callL (takes_of rfl rfl rfl rfl) G__law_spoilt (hr.mono (by decide)) (by rfl) D__law_spoilt.g D__law_spoilt.F.kp D__law_spoilt.b rfl (.inl rfl) (At.s At.z) (am_cons (em_var rfl (.inl rfl) (At.s (At.s At.z))) am_nil)) am_nil))))) (ss_nilI MvI.refl)) (ss_cons (sm_set sc_law.nd rfl (.inl rfl) (At.s (At.s (At.s At.z))) (em_call (takes_of rfl rfl rfl rfl) G__law_outcome (hr.mono (by decide)) (by rfl) D__law_outcome.g D__law_outcome.F.kp D__law_outcome.b (am_cons (em_var rfl (.inl rfl) (At.s (At.s At.z))) am_nil)) (hf := .inl rfl)) (ss_cons (sm_if (tm_b (bm_or (tm_isN (em_var rfl (.inl rfl) (At.s (At.s (At.s At.z))))) (bm_or1 (tm_not (tm_val (em_call (takes_of rfl rfl rfl rfl) G__law_is_system (hr.mono (by decide)) (by rfl) D__law_is_system.g D__law_is_system.F.kp D__law_is_system.b (am_cons (em_getO (em_var rfl (.inl rfl) (At.s (At.s (At.s At.z))))) (am_cons (em_var rfl (.inl rfl) (At.s (At.s At.z))) am_nil)))))))) (ss_one (sm_retP em_bool)) (ss_nilI MvI.refl)) (ss_cons (sm_set sc_law.nd rfl (.inl rfl) (At.s (At.s (At.s (At.s At.z)))) (em_freeze (em_lstN (am_hcons (em_txt (x := ([97] : List Nat)) (by decide +kernel) (by decide)) (am_hcons (em_txt (x := ([97, 49] : List Nat)) (by decide +kernel) (by decide)) (am_hcons (em_txt (x := ([105, 102] : List Nat)) (by decide +kernel) (by decide)) (am_hcons (em_txt (x := ([97, 108, 108] : List Nat)) (by decide +kernel) (by decide)) (am_hcons (em_txt (x := ([110, 101, 119] : List Nat)) (by decide +kernel) (by decide)) (am_hcons (em_txt (x := ([115, 101, 116] : List Nat)) (by decide +kernel) (by decide)) (am_hcons (em_txt (x := ([104, 101, 97, 114] : List Nat)) (by decide +kernel) (by decide)) (am_hcons (em_txt (x := ([115, 101, 110, 100] : List Nat)) (by decide +kernel) (by decide)) (am_hcons (em_txt (x := ([108, 111, 115, 101] : List Nat)) (by decide +kernel) (by decide)) (am_hcons (em_txt (x := ([103, 111, 110, 101] : List Nat)) (by decide +kernel) (by decide)) (am_hcons (em_txt (x := ([] : List Nat)) (by decide +kernel) (by decide)) (am_hcons (em_txt (x := ([49, 97] : List Nat)) (by decide +kernel) (by decide)) (am_hcons (em_txt (x := ([65] : List Nat)) (by decide +kernel) (by decide)) (am_hcons (em_txt (x := ([97, 66] : List Nat)) (by decide +kernel) (by decide)) (am_hcons (em_txt (x := ([97, 32, 98] : List Nat)) (by decide +kernel) (by decide)) (am_hcons (em_txt (x := ([114, 117, 108, 101] : List Nat)) (by decide +kernel) (by decide)) (am_hcons (em_txt (x := ([98, 97, 100] : List Nat)) (by decide +kernel) (by decide)) (am_hnil (T := tTxt))))))))))))))))))) (ln_cons (ln_cons (ln_cons (ln_cons (ln_cons (ln_cons (ln_cons (ln_cons (ln_cons (ln_cons (ln_cons (ln_cons (ln_cons (ln_cons (ln_cons (ln_cons (ln_cons ln_nil))))))))))))))))) (by decide))) (hf := .inl rfl)) (ss_cons (sm_set sc_law.nd rfl (.inl rfl) (At.s (At.s (At.s (At.s (At.s At.z))))) (em_ixL (fun _ _ => rfl) (em_var rfl (.inl rfl) (At.s (At.s (At.s (At.s At.z))))) (em_callL (takes_of rfl rfl rfl rfl) G__law_take (hr.mono (by decide)) (by rfl) D__law_take.g D__law_take.F.kp D__law_take.b rfl (.inl rfl) (At.s At.z) (am_cons em_int am_nil))) (hf := .inl rfl)) (ss_cons (sm_set sc_law.nd rfl (.inl rfl) (At.s (At.s (At.s (At.s (At.s (At.s At.z)))))) (em_c (cm_inT scTxt) (by rfl) (em_var rfl (.inl rfl) (At.s (At.s (At.s (At.s (At.s At.z)))))) (em_tupN (am_hcons (em_txt (x := ([97] : List Nat)) (by decide +kernel) (by decide)) (am_hcons (em_txt (x := ([97, 49] : List Nat)) (by decide +kernel) (by decide)) (am_hcons (em_txt (x := ([114, 117, 108, 101] : List Nat)) (by decide +kernel) (by decide)) (am_hcons (em_txt (x := ([98, 97, 100] : List Nat)) (by decide +kernel) (by decide)) (am_hnil (T := tTxt)))))) (ln_cons (ln_cons (ln_cons (ln_cons ln_nil)))) (by decide))) (hf := .inl rfl)) (ss_cons (sm_set sc_law.nd rfl (.inl rfl) (At.s (At.s (At.s (At.s (At.s (At.s (At.s At.z))))))) (em_call (takes_of rfl rfl rfl rfl) G_is_name (hr.mono (by decide)) (by rfl) D_is_name.g D_is_name.F.kp D_is_name.b (am_cons (em_var rfl (.inl rfl) (At.s (At.s (At.s (At.s (At.s At.z)))))) am_nil)) (hf := .inl rfl)) (ss_one (sm_retP (em_and (em_isC (by rfl) U.isinstance (by rfl) U.bool (by decide +kernel) is_bool (em_var rfl (.inl rfl) (At.s (At.s (At.s (At.s (At.s (At.s (At.s At.z))))))))) (em_one (em_c (cm_eqS scBool) (nomark _) (em_var rfl (.inl rfl) (At.s (At.s (At.s (At.s (At.s (At.s (At.s At.z)))))))) (em_var rfl (.inl rfl) (At.s (At.s (At.s (At.s (At.s (At.s At.z))))))))))))))))))))))
end
end W
namespace W
open PySem PySem.Spec PyProof.Rows L2 TC
local macro_rules | `(tactic| walk_at "wp") => `(tactic| ((try simp only [w_V, w_C, w_F, w_U, w_B, w_Cmp, w_And, w_Or, w_Ite, w_Chain, w_IxO, w_LenO, w_Nil, w_Cons, w_U0, w_Pair, w_CallL, w_Make, w_Lc, w_LcIf, w_Pop, w_DGet, w_DGetN, w_DIn, w_DNin, w_InO, w_NinO, w_D1, w_Range1, w_Range2, w_Set, w_Expr, w_App, w_Rev, w_Store, w_AddI, w_DPut, w_If, w_For, w_While, w_Nx, w_SeqL, w_Ret, w_RetL, w_FldNew, w_Bk, w_Ct, w_Run, gZ_eq, gS_eq, pZ_eq, pS_eq, pP_eq, pN_eq, pC_eq, c3_eq, c2_eq, iS_eq, iZ_eq, Res.is_ok, is_mAdd, is_mSub, w_AppIx, mEq_eq, mNe_eq, mLt_eq, mLe_eq, mGt_eq, mGe_eq, mIn_eq, mNin_eq, w_Er, w_ErN, w_Try, w_Cut, w_AugIx, w_mSome, w_mInl, w_mInr, mAlt_l, mAlt_r, w_noErRt, Bool.not_true, Bool.not_false, if_true, Bool.false_eq_true, if_false, decide_eq_true_eq, Bool.not_eq_true', decide_eq_false_iff_not, reduceCtorEq, decide_true, decide_false, Option.isSome_none, Option.isSome_some, Option.isNone_none, Option.isNone_some, w_Mv, mInS_eq, mNinS_eq]); (repeat (rw [rest_eq]; (try simp only [w_V, w_C, w_F, w_U, w_B, w_Cmp, w_And, w_Or, w_Ite, w_Chain, w_IxO, w_LenO, w_Nil, w_Cons, w_U0, w_Pair, w_CallL, w_Make, w_Lc, w_LcIf, w_Pop, w_DGet, w_DGetN, w_DIn, w_DNin, w_InO, w_NinO, w_D1, w_Range1, w_Range2, w_Set, w_Expr, w_App, w_Rev, w_Store, w_AddI, w_DPut, w_If, w_For, w_While, w_Nx, w_SeqL, w_Ret, w_RetL, w_FldNew, w_Bk, w_Ct, w_Run, gZ_eq, gS_eq, pZ_eq, pS_eq, pP_eq, pN_eq, pC_eq, c3_eq, c2_eq, iS_eq, iZ_eq, Res.is_ok, is_mAdd, is_mSub, w_AppIx, mEq_eq, mNe_eq, mLt_eq, mLe_eq, mGt_eq, mGe_eq, mIn_eq, mNin_eq, w_Er, w_ErN, w_Try, w_Cut, w_AugIx, w_mSome, w_mInl, w_mInr, mAlt_l, mAlt_r, w_noErRt, Bool.not_true, Bool.not_false, if_true, Bool.false_eq_true, if_false, decide_eq_true_eq, Bool.not_eq_true', decide_eq_false_iff_not, reduceCtorEq, decide_true, decide_false, Option.isSome_none, Option.isSome_some, Option.isNone_none, Option.isNone_some, w_Mv, mInS_eq, mNinS_eq])))))
theorem take_is {ds : List Int} {n : Int} {E : Ex → Prop} {Q : Int × List Int → Prop} (h : 0 < n) (k : ∀ i ds', 0 ≤ i → i < n → Q (i, ds')) : (m__law_take (ds, n, ())).Is E Q := by
  unfold m__law_take
  walk_at "wp"
  split
  · exact k 0 ds (Int.le_refl _) h
  · rename_i hz
    have hne : ds ≠ [] := by
      intro e; subst e; simp at hz
    refine is_mPop (ds.getLast hne) (List.getLast?_eq_some_getLast hne) ?_
    refine is_mMod h ?_
    exact k _ _ (Int.emod_nonneg _ (by omega)) (Int.emod_lt_of_pos _ h)
theorem draws_is {ns : List Int} {n : Int} {E : Ex → Prop} {Q : List Int → Prop} (hn : ns.length ≤ 63) (h0 : 0 ≤ n) (h : n ≤ 1000) (k : ∀ ds : List Int, Q ds) : (m__law_draws (ns, n, ())).Is E Q := by
  rw [n__law_draws]
  walk_at "wp"
  have main : ∀ cells : List Int, 1 ≤ cells.length → cells.length ≤ 63 → ∀ (R : List Int → Prop) (B C : Unit → Prop) (Q2 : _ → Prop), (∀ a b c d e f g h i, Q2 (a, b, c, d, e, f, g, h, i, ())) → (mRange 0 n).Is E fun xs => (forM (fun x l => l__law_draws_6 (pS (pS (pS (pS (pS pZ)))) l x)) xs (ns, n, cells, ([] : List Int), (12345 : Int), (0 : Int), (0 : Int), (0 : Int), (0 : Int), ()) : Out _ Unit (List Int)).Is E R B C Q2 := by
    intro cells h1 h2 R B C Q2 hQ
    refine is_mRange (by omega) ?_
    refine forM_is (fun i l => ∃ cells found mixed k j cell again, l = (ns, n, cells, found, mixed, k, j, cell, again, ()) ∧ 1 ≤ cells.length ∧ cells.length ≤ 63 ∧ found.length = i ∧ 0 ≤ mixed ∧ mixed < 2147483647)
      ⟨cells, [], 12345, 0, 0, 0, 0, rfl, h1, h2, rfl, by omega, by omega⟩ ?_ ?_
    · rintro i x l hx ⟨cells, found, mixed, k', j, cell, again, rfl, c1, c2, c3, m1, m2⟩
      obtain ⟨hx1, hx2⟩ := irange_get hx
      unfold l__law_draws_6
      walk_at "wp"
      refine is_mMod (by omega) ?_
      have jb : 0 ≤ x % (cells.length : Int) := Int.emod_nonneg _ (by omega)
      have jl : x % (cells.length : Int) < cells.length := Int.emod_lt_of_pos _ (by omega)
      have jn : (x % (cells.length : Int)).toNat < cells.length := by omega
      walk_at "wp"
      refine is_mIx cells[(x % (cells.length : Int)).toNat] jb (List.getElem?_eq_getElem jn) ?_
      walk_at "wp"
      refine is_mMul (.inr (by omega)) ?_
      refine is_mMod (by omega) ?_
      refine is_mMul (.inr (by omega)) ?_
      refine is_mMul (.inr (by omega)) ?_
      refine is_mMod (by omega) ?_
      generalize hm : ((mixed * 48271 + cells[(x % (cells.length : Int)).toNat] % 1000003 * 69621 + x * 7919 + 11) % 2147483647 : Int) = mx
      have mx0 : 0 ≤ mx := by rw [← hm]; exact Int.emod_nonneg _ (by omega)
      have mx1 : mx < 2147483647 := by rw [← hm]; exact Int.emod_lt_of_pos _ (by omega)
      walk_at "wp"
      refine is_mMul (.inr (by omega)) ?_
      refine is_mMul (.inl (by omega)) ?_
      refine is_mMod (by omega) ?_
      have pw : ∀ {Q : Int → Prop}, Q ((10 : Int) ^ (18 : Int).toNat) → (mPow 10 18).Is E Q := fun {Q} hq => by
        unfold mPow; rw [if_pos (by decide)]; exact isk hq
      walk_at "wp"
      refine pw ?_
      split
      · refine is_mMod (by omega) ?_
        refine is_mApp (by omega) ?_
        walk_at "wp"
        refine is_mDiv ⟨by decide, by decide⟩ ?_
        refine is_mSet jb jl ?_
        walk_at "wp"
        exact ⟨_, _, mx, x, _, _, _, rfl, by simpa using c1, by simpa using c2, by simp [c3], mx0, mx1⟩
      · refine is_mMod (by omega) ?_
        refine is_mApp (by omega) ?_
        walk_at "wp"
        exact ⟨_, _, mx, x, _, _, _, rfl, c1, c2, by simp [c3], mx0, mx1⟩
    · rintro l ⟨cells, found, mixed, k', j, cell, again, rfl, _⟩
      exact hQ _ _ _ _ _ _ _ _ _
  split
  · walk_at "wp"
    refine main [7] (by simp) (by simp) _ _ _ _ fun a b c d e f g h i => ?_
    walk_at "wp"
    exact k _
  · rename_i hz
    walk_at "wp"
    refine main ns (by
      have : ns.length ≠ 0 := by intro e; simp [e] at hz
      omega) hn _ _ _ _ fun a b c d e f g h i => ?_
    walk_at "wp"
    exact k _

end W
namespace W
open PySem PySem.Spec PyProof.Rows L2 TC
local macro_rules | `(tactic| walk_at "wp") => `(tactic| ((try simp only [w_V, w_C, w_F, w_U, w_B, w_Cmp, w_And, w_Or, w_Ite, w_Chain, w_IxO, w_LenO, w_Nil, w_Cons, w_U0, w_Pair, w_CallL, w_Make, w_Lc, w_LcIf, w_Pop, w_DGet, w_DGetN, w_DIn, w_DNin, w_InO, w_NinO, w_D1, w_Range1, w_Range2, w_Set, w_Expr, w_App, w_Rev, w_Store, w_AddI, w_DPut, w_If, w_For, w_While, w_Nx, w_SeqL, w_Ret, w_RetL, w_FldNew, w_Bk, w_Ct, w_Run, gZ_eq, gS_eq, pZ_eq, pS_eq, pP_eq, pN_eq, pC_eq, c3_eq, c2_eq, iS_eq, iZ_eq, Res.is_ok, is_mAdd, is_mSub, w_AppIx, mEq_eq, mNe_eq, mLt_eq, mLe_eq, mGt_eq, mGe_eq, mIn_eq, mNin_eq, w_Er, w_ErN, w_Try, w_Cut, w_AugIx, w_mSome, w_mInl, w_mInr, mAlt_l, mAlt_r, w_noErRt, Bool.not_true, Bool.not_false, if_true, Bool.false_eq_true, if_false, decide_eq_true_eq, Bool.not_eq_true', decide_eq_false_iff_not, reduceCtorEq, decide_true, decide_false, Option.isSome_none, Option.isSome_some, Option.isNone_none, Option.isNone_some, w_Mv, mInS_eq, mNinS_eq]); (repeat (rw [rest_eq]; (try simp only [w_V, w_C, w_F, w_U, w_B, w_Cmp, w_And, w_Or, w_Ite, w_Chain, w_IxO, w_LenO, w_Nil, w_Cons, w_U0, w_Pair, w_CallL, w_Make, w_Lc, w_LcIf, w_Pop, w_DGet, w_DGetN, w_DIn, w_DNin, w_InO, w_NinO, w_D1, w_Range1, w_Range2, w_Set, w_Expr, w_App, w_Rev, w_Store, w_AddI, w_DPut, w_If, w_For, w_While, w_Nx, w_SeqL, w_Ret, w_RetL, w_FldNew, w_Bk, w_Ct, w_Run, gZ_eq, gS_eq, pZ_eq, pS_eq, pP_eq, pN_eq, pC_eq, c3_eq, c2_eq, iS_eq, iZ_eq, Res.is_ok, is_mAdd, is_mSub, w_AppIx, mEq_eq, mNe_eq, mLt_eq, mLe_eq, mGt_eq, mGe_eq, mIn_eq, mNin_eq, w_Er, w_ErN, w_Try, w_Cut, w_AugIx, w_mSome, w_mInl, w_mInr, mAlt_l, mAlt_r, w_noErRt, Bool.not_true, Bool.not_false, if_true, Bool.false_eq_true, if_false, decide_eq_true_eq, Bool.not_eq_true', decide_eq_false_iff_not, reduceCtorEq, decide_true, decide_false, Option.isSome_none, Option.isSome_some, Option.isNone_none, Option.isNone_some, w_Mv, mInS_eq, mNinS_eq])))))
abbrev Tx := List Nat
abbrev Prs := List (Tx × Tx)
abbrev Vrs := List (Tx × List Tx)
abbrev Ptn := List (Tx × Int) × Prs
abbrev RulH := Tx × Prs × Prs × List Tx × Prs × Prs × Prs × Prs × Unit
abbrev goneW : Tx := [103, 111, 110, 101]
abbrev lowW : Tx := [97, 98, 99, 100, 101, 102, 103, 104, 105, 106, 107, 108, 109, 110, 111, 112, 113, 114, 115, 116, 117, 118, 119, 120, 121, 122]
abbrev digW : Tx := [48, 49, 50, 51, 52, 53, 54, 55, 56, 57]
abbrev resW : List Tx := [[97, 108, 108], [110, 101, 119], [105, 102], [115, 101, 116], [104, 101, 97, 114], [115, 101, 110, 100], [108, 111, 115, 101], goneW]
def signB (c : Nat) : Bool := decide (c ∈ lowW ∨ c ∈ digW)
def nameB (w : Tx) : Bool := decide (¬ (w = [] ∨ ¬ w.getD 0 0 ∈ lowW ∨ w ∈ resW) ∧ w.all signB = true)
theorem is_name_is {w : Tx} {E : Ex → Prop} {Q : Bool → Prop} (hl : w.length ≤ 1000000) (k : Q (nameB w)) : (m_is_name (w, ())).Is E Q := by
  have loop : ∀ {B C : Unit → Prop} {R : Bool → Prop} {Q2 : Tx × Nat × Unit → Prop}, (w.all signB = false → R false) → (∀ c, w.all signB = true → Q2 (w, c, ())) → (forM (fun x l => l_is_name_3 (pS pZ l x)) w (w, 0, ()) : Out _ Unit Bool).Is E R B C Q2 := by
    intro B C R Q2 h1 h2
    refine for_all signB (fun l => ∃ z, l = (w, z, ())) (fun r => r = false) ⟨0, rfl⟩ ?_ ?_ ?_
    · rintro x l hx ⟨z, rfl⟩
      unfold l_is_name_3
      walk_at "wp"
      split
      · rename_i hc
        split
        · rename_i hd
          exact ⟨decide_eq_false fun h => h.elim hc hd, trivial⟩
        · rename_i hd
          walk_at "wp"
          exact ⟨decide_eq_true (.inr (Decidable.of_not_not hd)), x, rfl⟩
      · rename_i hc
        walk_at "wp"
        exact ⟨decide_eq_true (.inl (Decidable.of_not_not hc)), x, rfl⟩
    · rintro r hr rfl
      exact h1 hr
    · rintro l ⟨z, rfl⟩ hr
      exact h2 z hr
  rw [n_is_name]
  walk_at "wp"
  by_cases h0 : w = []
  · rw [if_pos h0]
    walk_at "wp"
    have e : nameB w = false := decide_eq_false fun h => h.1 (.inl h0)
    rw [e] at k
    exact k
  · rw [if_neg h0]
    have hp : 0 < w.length := List.length_pos_iff.mpr h0
    refine is_mIxS hl (Int.le_refl _) (by omega) ?_
    walk_at "wp"
    split
    · rename_i h1
      have e : nameB w = false := decide_eq_false fun h => h.1 (.inr (.inl h1))
      rw [e] at k
      exact k
    · rename_i h1
      split
      · rename_i h2
        have e : nameB w = false := decide_eq_false fun h => h.1 (.inr (.inr h2))
        rw [e] at k
        exact k
      · rename_i h2
        refine loop (fun h3 => ?_) (fun c h3 => ?_)
        · have e : nameB w = false := decide_eq_false fun h => by rw [h3] at h; exact absurd h.2 (by decide)
          rw [e] at k
          exact k
        · walk_at "wp"
          have e : nameB w = true := decide_eq_true ⟨fun h => h.elim h0 fun h => h.elim h1 h2, h3⟩
          rw [e] at k
          exact k
def diffB (xs : List Tx) : Bool := decide xs.Nodup
theorem are_different_is {xs : List Tx} {E : Ex → Prop} {Q : Bool → Prop} (hl : xs.length ≤ 4000) (k : Q (diffB xs)) : (m_are_different (xs, ())).Is E Q := by
  unfold m_are_different
  walk_at "wp"
  refine is_mDiff hl ?_
  walk_at "wp"
  have e : decide (nDiff xs = (xs.length : Int)) = diffB xs := dec_congr (nDiff_eq xs)
  rw [e]
  exact k
def namesB (ws : List Tx) : Bool := ws.all nameB && diffB ws
theorem are_names_is {ws : List Tx} {E : Ex → Prop} {Q : Bool → Prop} (hl : ws.length ≤ 4000) (hw : ∀ w ∈ ws, w.length ≤ 1000000) (k : Q (namesB ws)) : (m_are_names (ws, ())).Is E Q := by
  rw [n_are_names]
  walk_at "wp"
  refine for_all nameB (fun l => ∃ z, l = (ws, z, ())) (fun r => r = false) ⟨[], rfl⟩ ?_ ?_ ?_
  · rintro x l hx ⟨z, rfl⟩
    unfold l_are_names_1
    walk_at "wp"
    refine is_name_is (hw x hx) ?_
    cases h : nameB x with
    | true => walk_at "wp"; exact ⟨by first | rfl | trivial, x, rfl⟩
    | false => walk_at "wp"; exact ⟨by first | rfl | trivial, by first | rfl | trivial⟩
  · rintro r hr rfl
    have e : namesB ws = false := by unfold namesB; rw [hr]; rfl
    rw [e] at k; exact k
  · rintro l ⟨z, rfl⟩ hr
    walk_at "wp"
    refine are_different_is hl ?_
    walk_at "wp"
    have e : namesB ws = diffB ws := by unfold namesB; rw [hr]; rfl
    rw [e] at k; exact k
def moveB (states : List Tx) (p : Tx × Tx) : Bool := decide (¬ (¬ p.1 ∈ states ∨ (¬ p.2 ∈ states ∧ p.2 ≠ goneW)))
theorem right_moves_is {ps : Prs} {states : List Tx} {E : Ex → Prop} {Q : Bool → Prop} (k : Q (ps.all (moveB states))) : (m_right_moves (ps, states, ())).Is E Q := by
  rw [n_right_moves]
  walk_at "wp"
  refine for_all (moveB states) (fun l => ∃ a b, l = (ps, states, a, b, ())) (fun r => r = false) ⟨[], [], rfl⟩ ?_ ?_ ?_
  · rintro ⟨x, y⟩ l hx ⟨a, b, rfl⟩
    unfold l_right_moves_1
    walk_at "wp"
    split
    · rename_i h1
      exact ⟨decide_eq_false fun h => h (.inl h1), trivial⟩
    · rename_i h1
      split
      · rename_i h2
        split
        · rename_i h3
          exact ⟨decide_eq_false fun h => h (.inr ⟨h2, h3⟩), trivial⟩
        · rename_i h3
          exact ⟨decide_eq_true fun h => h.elim h1 fun h => h3 h.2, _, _, rfl⟩
      · rename_i h2
        exact ⟨decide_eq_true fun h => h.elim h1 fun h => h2 h.1, _, _, rfl⟩
  · rintro r hr rfl
    rw [hr] at k; exact k
  · rintro l ⟨a, b, rfl⟩ hr
    walk_at "wp"
    rw [hr] at k; exact k
def valueB (vars : Vrs) (p : Tx × Tx) : Bool := match (vars.filter fun v => decide (v.1 = p.1)).map (·.2) with | [] => false | v :: _ => decide (p.2 ∈ v)
def valuesB (vars : Vrs) (ps : Prs) : Bool := ps.all (valueB vars) && diffB (ps.map (·.1))
theorem right_values_is {ps : Prs} {vars : Vrs} {E : Ex → Prop} {Q : Bool → Prop} (h1 : ps.length ≤ 4000) (h2 : vars.length ≤ 1000) (k : Q (valuesB vars ps)) : (m_right_values (ps, vars, ())).Is E Q := by
  rw [n_right_values]
  walk_at "wp"
  refine for_all (valueB vars) (fun l => ∃ a b c d e f, l = (ps, vars, a, b, c, d, e, f, ())) (fun r => r = false) ⟨_, _, _, _, _, _, rfl⟩ ?_ ?_ ?_
  · rintro ⟨x, y⟩ l hx ⟨a, b, c, d, e, f, rfl⟩
    unfold l_right_values_1
    walk_at "wp"
    refine comp_filter (fun v => decide (v.1 = x)) (·.2) (fun s => ∃ c d e f, s = (ps, vars, x, y, c, d, e, f, ())) (by omega) ⟨_, _, _, _, rfl⟩ ?_ ?_
    · rintro ⟨v, w⟩ s hs ⟨c, d, e, f, rfl⟩
      simp only [Res.is_bind]
      walk_at "wp"
      by_cases h : v = x
      · simp only [if_pos h, Res.is_bind]
        walk_at "wp"
        exact ⟨by first | rfl | trivial, _, _, _, _, rfl⟩
      · simp only [if_neg h]
        walk_at "wp"
        exact ⟨by first | rfl | trivial, _, _, _, _, rfl⟩
    · rintro s ⟨c, d, e, f, rfl⟩
      walk_at "wp"
      have ev : valueB vars (x, y) = match (vars.filter fun v => decide (v.1 = x)).map (·.2) with | [] => false | v :: _ => decide (y ∈ v) := rfl
      cases hk : (vars.filter fun v => decide (v.1 = x)).map (·.2) with
      | nil =>
        rw [hk] at ev
        rw [if_pos (by rfl)]
        exact ⟨ev, trivial⟩
      | cons v rest =>
        rw [hk] at ev
        rw [if_neg (by simp; omega)]
        refine is_mIx v (Int.le_refl _) rfl ?_
        walk_at "wp"
        split
        · rename_i h
          exact ⟨by rw [ev]; exact decide_eq_false h, trivial⟩
        · rename_i h
          exact ⟨by rw [ev]; exact decide_eq_true (Decidable.of_not_not h), _, _, _, _, _, _, rfl⟩
  · rintro r hr rfl
    have e : valuesB vars ps = false := by unfold valuesB; rw [hr]; rfl
    rw [e] at k; exact k
  · rintro l ⟨a, b, c, d, e, f, rfl⟩ hr
    walk_at "wp"
    refine comp_map (·.1) (fun s => ∃ a b c d e f, s = (ps, vars, a, b, c, d, e, f, ())) (by omega) ⟨_, _, _, _, _, _, rfl⟩ ?_ ?_
    · rintro ⟨x, y⟩ s hx ⟨a, b, c, d, e, f, rfl⟩
      simp only [Res.is_bind]
      walk_at "wp"
      exact ⟨by first | rfl | trivial, _, _, _, _, _, _, rfl⟩
    · rintro s ⟨a, b, c, d, e, f, rfl⟩
      walk_at "wp"
      refine are_different_is (by rw [List.length_map]; omega) ?_
      walk_at "wp"
      have e : valuesB vars ps = diffB (ps.map (·.1)) := by unfold valuesB; rw [hr]; rfl
      rw [e] at k
      exact k
theorem right_values_l_eq : m_right_values_l = m_right_values := rfl
def statesB (states : List Tx) (start : Tx) : Bool := decide (1 ≤ states.length ∧ states.length ≤ 6) && (namesB states && decide (start ∈ states))
theorem right_states_is {states : List Tx} {start : Tx} {E : Ex → Prop} {Q : Bool → Prop} (hw : ∀ w ∈ states, w.length ≤ 1000000) (k : Q (statesB states start)) : (m_right_states (states, start, ())).Is E Q := by
  unfold m_right_states
  walk_at "wp"
  by_cases h1 : 1 ≤ states.length ∧ states.length ≤ 6
  · rw [if_pos (by omega), if_pos (by omega)]
    refine are_names_is (by omega) hw ?_
    have e : statesB states start = (namesB states && decide (start ∈ states)) := by unfold statesB; rw [decide_eq_true h1]; rfl
    rw [e] at k
    cases hn : namesB states with
    | true => rw [hn] at k; rw [if_pos rfl]; exact k
    | false => rw [hn] at k; rw [if_neg (by decide)]; exact k
  · have e : statesB states start = false := by unfold statesB; rw [decide_eq_false h1]; rfl
    rw [e] at k
    by_cases h2 : (1 : Int) ≤ (states.length : Int)
    · rw [if_pos h2, if_neg (by omega)]
      exact k
    · rw [if_neg h2]
      exact k
def varB (lo hi : Nat) (states : List Tx) (earlier : List Tx) (n : Nat) (name : Tx) (values : List Tx) : Bool := decide (¬ (2 ≤ n ∨ ¬ nameB name = true ∨ name ∈ states)) && (decide (¬ name ∈ earlier) && (decide (lo ≤ values.length ∧ values.length ≤ hi) && namesB values))
theorem right_variable_is {states : List Tx} {earlier : Vrs} {name : Tx} {values : List Tx} {E : Ex → Prop} {Q : Bool → Prop} (h1 : name.length ≤ 1000000) (h2 : earlier.length ≤ 1000) (h3 : ∀ w ∈ values, w.length ≤ 1000000) (k : Q (varB 2 3 states (earlier.map (·.1)) earlier.length name values)) : (m_right_variable (states, earlier, name, values, ())).Is E Q := by
  unfold m_right_variable
  walk_at "wp"
  by_cases g1 : 2 ≤ earlier.length
  · rw [if_pos (by omega)]
    have e : varB 2 3 states (earlier.map (·.1)) earlier.length name values = false := by unfold varB; rw [decide_eq_false fun h => h (.inl g1)]; rfl
    rw [e] at k; exact k
  rw [if_neg (by omega)]
  refine is_name_is h1 ?_
  cases g2 : nameB name with
  | false =>
    rw [if_pos rfl]
    have e : varB 2 3 states (earlier.map (·.1)) earlier.length name values = false := by unfold varB; rw [decide_eq_false fun h => h (.inr (.inl (by rw [g2]; decide)))]; rfl
    rw [e] at k; exact k
  | true =>
    rw [if_neg (by decide)]
    by_cases g3 : name ∈ states
    · rw [if_pos g3]
      have e : varB 2 3 states (earlier.map (·.1)) earlier.length name values = false := by unfold varB; rw [decide_eq_false fun h => h (.inr (.inr g3))]; rfl
      rw [e] at k; exact k
    rw [if_neg g3]
    have e1 : varB 2 3 states (earlier.map (·.1)) earlier.length name values = (decide (¬ name ∈ earlier.map (·.1)) && (decide (2 ≤ values.length ∧ values.length ≤ 3) && namesB values)) := by
      unfold varB
      rw [decide_eq_true (p := ¬ (2 ≤ earlier.length ∨ ¬ nameB name = true ∨ name ∈ states)) (fun h => h.elim g1 fun h => h.elim (fun h => h g2) g3), Bool.true_and]
    rw [e1] at k
    refine comp_map (·.1) (fun s => ∃ a b, s = (states, earlier, name, values, a, b, ())) (by omega) ⟨_, _, rfl⟩ ?_ ?_
    · rintro ⟨x, y⟩ s hx ⟨a, b, rfl⟩
      simp only [Res.is_bind]
      walk_at "wp"
      exact ⟨by first | rfl | trivial, _, _, rfl⟩
    · rintro s ⟨a, b, rfl⟩
      by_cases g4 : name ∈ earlier.map (·.1)
      · rw [if_pos g4]
        rw [decide_eq_false fun h => h g4] at k
        exact k
      rw [if_neg g4]
      rw [decide_eq_true g4, Bool.true_and] at k
      walk_at "wp"
      by_cases g5 : 2 ≤ values.length ∧ values.length ≤ 3
      · rw [if_pos (by omega), if_pos (by omega)]
        rw [decide_eq_true g5, Bool.true_and] at k
        exact are_names_is (by omega) h3 k
      · rw [decide_eq_false g5] at k
        by_cases g6 : (2 : Int) ≤ (values.length : Int)
        · rw [if_pos g6, if_neg (by omega)]; exact k
        · rw [if_neg g6]; exact k
theorem right_channel_is {states : List Tx} {vars earlier : Vrs} {name : Tx} {values : List Tx} {E : Ex → Prop} {Q : Bool → Prop} (h1 : name.length ≤ 1000000) (h2 : earlier.length ≤ 1000) (h2' : vars.length ≤ 1000) (h3 : ∀ w ∈ values, w.length ≤ 1000000) (k : Q (varB 1 3 states ((vars ++ earlier).map (·.1)) earlier.length name values)) : (m_right_channel (states, vars, earlier, name, values, ())).Is E Q := by
  unfold m_right_channel
  walk_at "wp"
  by_cases g1 : 2 ≤ earlier.length
  · rw [if_pos (by omega)]
    have e : varB 1 3 states ((vars ++ earlier).map (·.1)) earlier.length name values = false := by unfold varB; rw [decide_eq_false fun h => h (.inl g1)]; rfl
    rw [e] at k; exact k
  rw [if_neg (by omega)]
  refine is_name_is h1 ?_
  cases g2 : nameB name with
  | false =>
    rw [if_pos rfl]
    have e : varB 1 3 states ((vars ++ earlier).map (·.1)) earlier.length name values = false := by unfold varB; rw [decide_eq_false fun h => h (.inr (.inl (by rw [g2]; decide)))]; rfl
    rw [e] at k; exact k
  | true =>
    rw [if_neg (by decide)]
    by_cases g3 : name ∈ states
    · rw [if_pos g3]
      have e : varB 1 3 states ((vars ++ earlier).map (·.1)) earlier.length name values = false := by unfold varB; rw [decide_eq_false fun h => h (.inr (.inr g3))]; rfl
      rw [e] at k; exact k
    rw [if_neg g3]
    have e1 : varB 1 3 states ((vars ++ earlier).map (·.1)) earlier.length name values = (decide (¬ name ∈ (vars ++ earlier).map (·.1)) && (decide (1 ≤ values.length ∧ values.length ≤ 3) && namesB values)) := by
      unfold varB
      rw [decide_eq_true (p := ¬ (2 ≤ earlier.length ∨ ¬ nameB name = true ∨ name ∈ states)) (fun h => h.elim g1 fun h => h.elim (fun h => h g2) g3), Bool.true_and]
    rw [e1] at k
    refine is_mCat (by omega) ?_
    walk_at "wp"
    refine comp_map (·.1) (fun s => ∃ a b, s = (states, vars, earlier, name, values, a, b, ())) (by rw [List.length_append]; omega) ⟨_, _, rfl⟩ ?_ ?_
    · rintro ⟨x, y⟩ s hx ⟨a, b, rfl⟩
      simp only [Res.is_bind]
      walk_at "wp"
      exact ⟨by first | rfl | trivial, _, _, rfl⟩
    · rintro s ⟨a, b, rfl⟩
      by_cases g4 : name ∈ (vars ++ earlier).map (·.1)
      · rw [if_pos g4]
        rw [decide_eq_false fun h => h g4] at k
        exact k
      rw [if_neg g4]
      rw [decide_eq_true g4, Bool.true_and] at k
      walk_at "wp"
      by_cases g5 : 1 ≤ values.length ∧ values.length ≤ 3
      · rw [if_pos (by omega), if_pos (by omega)]
        rw [decide_eq_true g5, Bool.true_and] at k
        exact are_names_is (by omega) h3 k
      · rw [decide_eq_false g5] at k
        by_cases g6 : (1 : Int) ≤ (values.length : Int)
        · rw [if_pos g6, if_neg (by omega)]; exact k
        · rw [if_neg g6]; exact k
/-! ### rules, patterns -/
def mkRule (r : RulH) : RRule := (((((((((), r.1), r.2.1), r.2.2.1), r.2.2.2.1), r.2.2.2.2.1), r.2.2.2.2.2.1), r.2.2.2.2.2.2.1), r.2.2.2.2.2.2.2.1)
theorem pairs_of_is {ps : Prs} {E : Ex → Prop} {Q : Prs → Prop} (h : ps.length ≤ 1000) (k : Q ps) : (m_pairs_of (ps, ())).Is E Q := by
  unfold m_pairs_of
  walk_at "wp"
  refine comp_map id (fun s => ∃ a b, s = (ps, a, b, ())) (by omega) ⟨_, _, rfl⟩ ?_ ?_
  · rintro ⟨x, y⟩ s hx ⟨a, b, rfl⟩
    simp only [Res.is_bind]
    walk_at "wp"
    exact ⟨by first | rfl | trivial, _, _, rfl⟩
  · rintro s ⟨a, b, rfl⟩
    rw [List.map_id]
    walk_at "wp"
    exact k
theorem pairs_of_n_is {ps : List (Tx × Int)} {E : Ex → Prop} {Q : List (Tx × Int) → Prop} (h : ps.length ≤ 1000) (k : Q ps) : (m_pairs_of_n (ps, ())).Is E Q := by
  unfold m_pairs_of_n
  walk_at "wp"
  refine comp_map id (fun s => ∃ a b, s = (ps, a, b, ())) (by omega) ⟨_, _, rfl⟩ ?_ ?_
  · rintro ⟨x, y⟩ s hx ⟨a, b, rfl⟩
    simp only [Res.is_bind]
    walk_at "wp"
    exact ⟨by first | rfl | trivial, _, _, rfl⟩
  · rintro s ⟨a, b, rfl⟩
    rw [List.map_id]
    walk_at "wp"
    exact k
theorem Rule_is {r : RulH} {E : Ex → Prop} {Q : RRule → Prop} (h : ∀ ps ∈ [r.2.1, r.2.2.1, r.2.2.2.2.1, r.2.2.2.2.2.1, r.2.2.2.2.2.2.1, r.2.2.2.2.2.2.2.1], ps.length ≤ 1000) (k : Q (mkRule r)) : (m_Rule ((), r)).Is E Q := by
  obtain ⟨a, b, c, d, e, f, g, i, u⟩ := r
  simp only [List.mem_cons, List.not_mem_nil, or_false, forall_eq_or_imp, forall_eq] at h
  obtain ⟨h1, h2, h3, h4, h5, h6⟩ := h
  unfold m_Rule
  walk_at "wp"
  refine pairs_of_is h1 ?_
  walk_at "wp"
  refine pairs_of_is h2 ?_
  walk_at "wp"
  refine pairs_of_is h3 ?_
  walk_at "wp"
  refine pairs_of_is h4 ?_
  walk_at "wp"
  refine pairs_of_is h5 ?_
  walk_at "wp"
  refine pairs_of_is h6 ?_
  walk_at "wp"
  exact k

end W
namespace W
open PySem PySem.Spec PyProof.Rows L2 TC
local macro_rules | `(tactic| walk_at "wp") => `(tactic| ((try simp only [w_V, w_C, w_F, w_U, w_B, w_Cmp, w_And, w_Or, w_Ite, w_Chain, w_IxO, w_LenO, w_Nil, w_Cons, w_U0, w_Pair, w_CallL, w_Make, w_Lc, w_LcIf, w_Pop, w_DGet, w_DGetN, w_DIn, w_DNin, w_InO, w_NinO, w_D1, w_Range1, w_Range2, w_Set, w_Expr, w_App, w_Rev, w_Store, w_AddI, w_DPut, w_If, w_For, w_While, w_Nx, w_SeqL, w_Ret, w_RetL, w_FldNew, w_Bk, w_Ct, w_Run, gZ_eq, gS_eq, pZ_eq, pS_eq, pP_eq, pN_eq, pC_eq, c3_eq, c2_eq, iS_eq, iZ_eq, Res.is_ok, is_mAdd, is_mSub, w_AppIx, mEq_eq, mNe_eq, mLt_eq, mLe_eq, mGt_eq, mGe_eq, mIn_eq, mNin_eq, w_Er, w_ErN, w_Try, w_Cut, w_AugIx, w_mSome, w_mInl, w_mInr, mAlt_l, mAlt_r, w_noErRt, Bool.not_true, Bool.not_false, if_true, Bool.false_eq_true, if_false, decide_eq_true_eq, Bool.not_eq_true', decide_eq_false_iff_not, reduceCtorEq, decide_true, decide_false, Option.isSome_none, Option.isSome_some, Option.isNone_none, Option.isNone_some, w_Mv, mInS_eq, mNinS_eq]); (repeat (rw [rest_eq]; (try simp only [w_V, w_C, w_F, w_U, w_B, w_Cmp, w_And, w_Or, w_Ite, w_Chain, w_IxO, w_LenO, w_Nil, w_Cons, w_U0, w_Pair, w_CallL, w_Make, w_Lc, w_LcIf, w_Pop, w_DGet, w_DGetN, w_DIn, w_DNin, w_InO, w_NinO, w_D1, w_Range1, w_Range2, w_Set, w_Expr, w_App, w_Rev, w_Store, w_AddI, w_DPut, w_If, w_For, w_While, w_Nx, w_SeqL, w_Ret, w_RetL, w_FldNew, w_Bk, w_Ct, w_Run, gZ_eq, gS_eq, pZ_eq, pS_eq, pP_eq, pN_eq, pC_eq, c3_eq, c2_eq, iS_eq, iZ_eq, Res.is_ok, is_mAdd, is_mSub, w_AppIx, mEq_eq, mNe_eq, mLt_eq, mLe_eq, mGt_eq, mGe_eq, mIn_eq, mNin_eq, w_Er, w_ErN, w_Try, w_Cut, w_AugIx, w_mSome, w_mInl, w_mInr, mAlt_l, mAlt_r, w_noErRt, Bool.not_true, Bool.not_false, if_true, Bool.false_eq_true, if_false, decide_eq_true_eq, Bool.not_eq_true', decide_eq_false_iff_not, reduceCtorEq, decide_true, decide_false, Option.isSome_none, Option.isSome_some, Option.isNone_none, Option.isNone_some, w_Mv, mInS_eq, mNinS_eq])))))
def nameOk (n : Nat) (earlier : List Tx) (name : Tx) : Bool := decide (¬ (n ≤ earlier.length ∨ ¬ nameB name = true ∨ name ∈ earlier))
theorem nameOk_t {n : Nat} {earlier : List Tx} {name : Tx} (h1 : ¬ n ≤ earlier.length) (h2 : nameB name = true) (h3 : ¬ name ∈ earlier) : nameOk n earlier name = true := decide_eq_true fun h => h.elim h1 fun h => h.elim (fun h => h h2) h3
def bornB (states born : List Tx) : Bool := born.all fun s => decide (s ∈ states)
def ruleB (states : List Tx) (vars chans : Vrs) (earlier : List Tx) (r : RulH) : Bool :=
  nameOk 8 earlier r.1 && (decide (1 ≤ r.2.1.length ∧ r.2.1.length ≤ 3) && (r.2.1.all (moveB states) && (r.2.2.1.all (moveB states) && (diffB (r.2.2.1.map (·.1)) &&
    (decide (r.2.2.2.1.length ≤ 3) && (bornB states r.2.2.2.1 && (valuesB vars r.2.2.2.2.1 && (valuesB vars r.2.2.2.2.2.1 && (valuesB chans r.2.2.2.2.2.2.1 && valuesB chans r.2.2.2.2.2.2.2.1)))))))))
theorem right_rule_is {states : List Tx} {vars chans : Vrs} {earlier : List RRule} {r : RulH} {E : Ex → Prop} {Q : Bool → Prop} (h : ∀ ps ∈ [r.2.1, r.2.2.1, r.2.2.2.2.1, r.2.2.2.2.2.1, r.2.2.2.2.2.2.1, r.2.2.2.2.2.2.2.1], ps.length ≤ 1000) (h1 : r.1.length ≤ 1000000) (h2 : earlier.length ≤ 1000) (h3 : vars.length ≤ 1000) (h4 : chans.length ≤ 1000)
    (k : Q (ruleB states vars chans (earlier.map fun r => r.1.1.1.1.1.1.1.2) r)) : (m_right_rule (states, vars, chans, earlier, mkRule r, ())).Is E Q := by
  obtain ⟨a, b, c, d, e, f, g, i, u⟩ := r
  simp only [List.mem_cons, List.not_mem_nil, or_false, forall_eq_or_imp, forall_eq] at h
  obtain ⟨l1, l2, l3, l4, l5, l6⟩ := h
  unfold ruleB at k
  dsimp only at k h1
  have el : (earlier.map fun r => r.1.1.1.1.1.1.1.2).length = earlier.length := List.length_map ..
  rw [n_right_rule]
  unfold mkRule
  walk_at "wp"
  by_cases g1 : 8 ≤ earlier.length
  · rw [if_pos (by omega)]
    rw [show nameOk 8 (earlier.map fun r => r.1.1.1.1.1.1.1.2) a = false from decide_eq_false fun h => h (.inl (by rw [el]; exact g1)), Bool.false_and] at k
    exact k
  rw [if_neg (by omega)]
  refine is_name_is h1 ?_
  cases g2 : nameB a with
  | false =>
    rw [if_pos rfl]
    rw [show nameOk 8 (earlier.map fun r => r.1.1.1.1.1.1.1.2) a = false from decide_eq_false fun h => h (.inr (.inl (by rw [g2]; decide))), Bool.false_and] at k
    exact k
  | true =>
  rw [if_neg (by decide)]
  refine comp_map (fun r => r.1.1.1.1.1.1.1.2) (fun s => ∃ o, s = (states, vars, chans, earlier, (((((((((), a), b), c), d), e), f), g), i), [], o, [], [], ())) (by omega) ⟨_, rfl⟩ ?_ ?_
  · rintro x s hx ⟨o, rfl⟩
    simp only [Res.is_bind]
    walk_at "wp"
    exact ⟨by first | rfl | trivial, _, rfl⟩
  rintro s ⟨o, rfl⟩
  by_cases g3 : a ∈ earlier.map fun r => r.1.1.1.1.1.1.1.2
  · rw [if_pos g3]
    rw [show nameOk 8 (earlier.map fun r => r.1.1.1.1.1.1.1.2) a = false from decide_eq_false fun h => h (.inr (.inr g3)), Bool.false_and] at k
    exact k
  rw [if_neg g3]
  rw [nameOk_t (by rw [el]; exact g1) g2 g3, Bool.true_and] at k
  walk_at "wp"
  by_cases g4 : 1 ≤ b.length ∧ b.length ≤ 3
  case neg =>
    rw [decide_eq_false g4, Bool.false_and] at k
    by_cases g5 : (1 : Int) ≤ (b.length : Int)
    · rw [if_pos g5, if_pos (by omega)]; exact k
    · rw [if_neg g5]; exact k
  rw [decide_eq_true g4, Bool.true_and] at k
  rw [if_pos (by omega), if_neg (by omega)]
  refine right_moves_is ?_
  cases b1 : b.all (moveB states) with
  | false => rw [b1, Bool.false_and] at k; rw [if_pos rfl]; exact k
  | true =>
  rw [b1, Bool.true_and] at k
  rw [if_neg (by decide)]
  refine right_moves_is ?_
  cases b2 : c.all (moveB states) with
  | false => rw [b2, Bool.false_and] at k; rw [if_pos rfl]; exact k
  | true =>
  rw [b2, Bool.true_and] at k
  rw [if_neg (by decide)]
  refine comp_map (·.1) (fun s => ∃ p q, s = (states, vars, chans, earlier, (((((((((), a), b), c), d), e), f), g), i), [], o, p, q, ())) (by omega) ⟨_, _, rfl⟩ ?_ ?_
  · rintro ⟨x, y⟩ s hx ⟨p, q, rfl⟩
    simp only [Res.is_bind]
    walk_at "wp"
    exact ⟨by first | rfl | trivial, _, _, rfl⟩
  rintro s ⟨p, q, rfl⟩
  refine are_different_is (by rw [List.length_map]; omega) ?_
  cases b3 : diffB (c.map (·.1)) with
  | false => rw [b3, Bool.false_and] at k; rw [if_pos rfl]; exact k
  | true =>
  rw [b3, Bool.true_and] at k
  rw [if_neg (by decide)]
  walk_at "wp"
  by_cases g6 : d.length ≤ 3
  case neg =>
    rw [decide_eq_false g6, Bool.false_and] at k
    rw [if_pos (by omega)]
    exact k
  rw [decide_eq_true g6, Bool.true_and] at k
  rw [if_neg (by omega)]
  refine for_all (fun s => decide (s ∈ states)) (fun l => ∃ z, l = (states, vars, chans, earlier, (((((((((), a), b), c), d), e), f), g), i), z, o, p, q, ())) (fun r => r = false) ⟨_, rfl⟩ ?_ ?_ ?_
  · rintro x l hx ⟨z, rfl⟩
    unfold l_right_rule_9
    walk_at "wp"
    split
    · rename_i hn
      exact ⟨hn, trivial⟩
    · rename_i hn
      exact ⟨Decidable.of_not_not hn, x, rfl⟩
  · rintro r hr rfl
    rw [show bornB states d = false from hr, Bool.false_and] at k
    exact k
  rintro l ⟨z, rfl⟩ hr
  rw [show bornB states d = true from hr, Bool.true_and] at k
  walk_at "wp"
  refine right_values_is (by omega) h3 ?_
  cases b4 : valuesB vars e with
  | false => rw [b4, Bool.false_and] at k; rw [if_pos rfl]; exact k
  | true =>
  rw [b4, Bool.true_and] at k
  rw [if_neg (by decide)]
  refine right_values_is (by omega) h3 ?_
  cases b5 : valuesB vars f with
  | false => rw [b5, Bool.false_and] at k; rw [if_pos rfl]; exact k
  | true =>
  rw [b5, Bool.true_and] at k
  rw [if_neg (by decide)]
  walk_at "wp"
  refine right_values_is (by omega) h4 ?_
  cases b6 : valuesB chans g with
  | false => rw [b6, Bool.false_and] at k; rw [if_neg (by decide)]; exact k
  | true =>
  rw [b6, Bool.true_and] at k
  rw [if_pos rfl]
  exact right_values_is (by omega) h4 k
def countB (states : List Tx) (p : Tx × Int) : Bool := decide (p.1 ∈ states ∧ 1 ≤ p.2 ∧ p.2 ≤ 9)
def pattB (states : List Tx) (vars : Vrs) (n : Nat) (p : Ptn) : Bool := decide (¬ (4 ≤ n ∨ p.1.length + p.2.length = 0)) && (p.1.all (countB states) && (diffB (p.1.map (·.1)) && valuesB vars p.2))
theorem right_pattern_is {states : List Tx} {vars : Vrs} {earlier : List Ptn} {p : Ptn} {E : Ex → Prop} {Q : Bool → Prop} (h1 : p.1.length ≤ 1000) (h2 : p.2.length ≤ 1000) (h3 : vars.length ≤ 1000) (k : Q (pattB states vars earlier.length p)) : (m_right_pattern (states, vars, earlier, p, ())).Is E Q := by
  obtain ⟨cs, vs⟩ := p
  unfold pattB at k
  dsimp only at k h1 h2
  rw [n_right_pattern]
  walk_at "wp"
  by_cases g1 : 4 ≤ earlier.length
  · rw [if_pos (by omega)]
    rw [show decide (¬ (4 ≤ earlier.length ∨ cs.length + vs.length = 0)) = false from decide_eq_false fun h => h (.inl g1), Bool.false_and] at k
    exact k
  rw [if_neg (by omega)]
  by_cases g2 : cs.length + vs.length = 0
  · rw [if_pos (by omega)]
    rw [show decide (¬ (4 ≤ earlier.length ∨ cs.length + vs.length = 0)) = false from decide_eq_false fun h => h (.inr g2), Bool.false_and] at k
    exact k
  rw [if_neg (by omega)]
  rw [decide_eq_true (p := ¬ (4 ≤ earlier.length ∨ cs.length + vs.length = 0)) (fun h => h.elim g1 g2), Bool.true_and] at k
  refine for_all (countB states) (fun l => ∃ x y z, l = (states, vars, earlier, (cs, vs), cs, vs, x, y, z, ())) (fun r => r = false) ⟨_, _, _, rfl⟩ ?_ ?_ ?_
  · rintro ⟨x, y⟩ l hx ⟨a, b, z, rfl⟩
    unfold l_right_pattern_4
    walk_at "wp"
    by_cases c1 : x ∈ states
    case neg =>
      rw [if_pos c1]
      exact ⟨decide_eq_false fun h => c1 h.1, trivial⟩
    rw [if_neg (fun h => h c1)]
    by_cases c2 : 1 ≤ y ∧ y ≤ 9
    · rw [if_pos (by omega), if_neg (by omega)]
      exact ⟨decide_eq_true ⟨c1, c2⟩, _, _, _, rfl⟩
    · by_cases c3 : 1 ≤ y
      · rw [if_pos c3, if_pos (by omega)]
        exact ⟨decide_eq_false fun h => c2 h.2, trivial⟩
      · rw [if_neg c3]
        exact ⟨decide_eq_false fun h => c2 h.2, trivial⟩
  · rintro r hr rfl
    rw [hr, Bool.false_and] at k
    exact k
  rintro l ⟨x, y, z, rfl⟩ hr
  rw [hr, Bool.true_and] at k
  walk_at "wp"
  refine comp_map (·.1) (fun s => ∃ x z, s = (states, vars, earlier, (cs, vs), cs, vs, x, y, z, ())) (by omega) ⟨_, _, rfl⟩ ?_ ?_
  · rintro ⟨a, b⟩ s hx ⟨x, z, rfl⟩
    simp only [Res.is_bind]
    walk_at "wp"
    exact ⟨by first | rfl | trivial, _, _, rfl⟩
  rintro s ⟨x, z, rfl⟩
  walk_at "wp"
  refine are_different_is (by rw [List.length_map]; omega) ?_
  cases b3 : diffB (cs.map (·.1)) with
  | false => rw [b3, Bool.false_and] at k; rw [if_neg (by decide)]; exact k
  | true =>
  rw [b3, Bool.true_and] at k
  rw [if_pos rfl]
  rw [right_values_l_eq]
  exact right_values_is (by omega) h3 k

end W
namespace W
open PySem PySem.Spec PyProof.Rows L2 TC
local macro_rules | `(tactic| walk_at "wp") => `(tactic| ((try simp only [w_V, w_C, w_F, w_U, w_B, w_Cmp, w_And, w_Or, w_Ite, w_Chain, w_IxO, w_LenO, w_Nil, w_Cons, w_U0, w_Pair, w_CallL, w_Make, w_Lc, w_LcIf, w_Pop, w_DGet, w_DGetN, w_DIn, w_DNin, w_InO, w_NinO, w_D1, w_Range1, w_Range2, w_Set, w_Expr, w_App, w_Rev, w_Store, w_AddI, w_DPut, w_If, w_For, w_While, w_Nx, w_SeqL, w_Ret, w_RetL, w_FldNew, w_Bk, w_Ct, w_Run, gZ_eq, gS_eq, pZ_eq, pS_eq, pP_eq, pN_eq, pC_eq, c3_eq, c2_eq, iS_eq, iZ_eq, Res.is_ok, is_mAdd, is_mSub, w_AppIx, mEq_eq, mNe_eq, mLt_eq, mLe_eq, mGt_eq, mGe_eq, mIn_eq, mNin_eq, w_Er, w_ErN, w_Try, w_Cut, w_AugIx, w_mSome, w_mInl, w_mInr, mAlt_l, mAlt_r, w_noErRt, Bool.not_true, Bool.not_false, if_true, Bool.false_eq_true, if_false, decide_eq_true_eq, Bool.not_eq_true', decide_eq_false_iff_not, reduceCtorEq, decide_true, decide_false, Option.isSome_none, Option.isSome_some, Option.isNone_none, Option.isNone_some, w_Mv, mInS_eq, mNinS_eq]); (repeat (rw [rest_eq]; (try simp only [w_V, w_C, w_F, w_U, w_B, w_Cmp, w_And, w_Or, w_Ite, w_Chain, w_IxO, w_LenO, w_Nil, w_Cons, w_U0, w_Pair, w_CallL, w_Make, w_Lc, w_LcIf, w_Pop, w_DGet, w_DGetN, w_DIn, w_DNin, w_InO, w_NinO, w_D1, w_Range1, w_Range2, w_Set, w_Expr, w_App, w_Rev, w_Store, w_AddI, w_DPut, w_If, w_For, w_While, w_Nx, w_SeqL, w_Ret, w_RetL, w_FldNew, w_Bk, w_Ct, w_Run, gZ_eq, gS_eq, pZ_eq, pS_eq, pP_eq, pN_eq, pC_eq, c3_eq, c2_eq, iS_eq, iZ_eq, Res.is_ok, is_mAdd, is_mSub, w_AppIx, mEq_eq, mNe_eq, mLt_eq, mLe_eq, mGt_eq, mGe_eq, mIn_eq, mNin_eq, w_Er, w_ErN, w_Try, w_Cut, w_AugIx, w_mSome, w_mInl, w_mInr, mAlt_l, mAlt_r, w_noErRt, Bool.not_true, Bool.not_false, if_true, Bool.false_eq_true, if_false, decide_eq_true_eq, Bool.not_eq_true', decide_eq_false_iff_not, reduceCtorEq, decide_true, decide_false, Option.isSome_none, Option.isSome_some, Option.isNone_none, Option.isNone_some, w_Mv, mInS_eq, mNinS_eq])))))
def mkSys (states : List Tx) (start : Tx) (vars chans : Vrs) (rules : List RulH) (bad : List Ptn) : RSystem := (((((((), states), start), vars), chans), rules.map mkRule), bad)
/-- the parts, as System sees them -/
structure SysOk (states : List Tx) (start : Tx) (vars chans : Vrs) (rules : List RulH) (bad : List Ptn) : Prop where
  b1 : statesB states start = true
  b2 : ∀ i p, vars[i]? = some p → varB 2 3 states ((vars.take i).map (·.1)) i p.1 p.2 = true
  b3 : ∀ i p, chans[i]? = some p → varB 1 3 states ((vars ++ chans.take i).map (·.1)) i p.1 p.2 = true
  b4 : ∀ i r, rules[i]? = some r → ruleB states vars chans ((rules.take i).map (·.1)) r = true
  b5 : ∀ i p, bad[i]? = some p → pattB states vars i p = true
/-- .. and nothing is too long -/
structure SysSmall (states : List Tx) (vars chans : Vrs) (rules : List RulH) (bad : List Ptn) : Prop where
  s1 : ∀ w ∈ states, w.length ≤ 1000
  s2 : vars.length ≤ 100 ∧ ∀ p ∈ vars, p.1.length ≤ 1000 ∧ ∀ w ∈ p.2, w.length ≤ 1000
  s3 : chans.length ≤ 100 ∧ ∀ p ∈ chans, p.1.length ≤ 1000 ∧ ∀ w ∈ p.2, w.length ≤ 1000
  s4 : rules.length ≤ 100 ∧ ∀ r ∈ rules, r.1.length ≤ 1000 ∧ ∀ ps ∈ [r.2.1, r.2.2.1, r.2.2.2.2.1, r.2.2.2.2.2.1, r.2.2.2.2.2.2.1, r.2.2.2.2.2.2.2.1], ps.length ≤ 100
  s5 : bad.length ≤ 100 ∧ ∀ p ∈ bad, p.1.length ≤ 100 ∧ p.2.length ≤ 100
theorem cut_take {α : Type} {xs : List α} {k : Int} (h0 : 0 ≤ k) : mCut xs none (some k) = xs.take k.toNat := by
  unfold mCut
  have e1 : HT.sIx xs.length 0 none = 0 := rfl
  have e2 : HT.sIx xs.length xs.length (some k) = min k.toNat xs.length := by
    show (if k < 0 then (k + (xs.length : Int)).toNat else min k.toNat xs.length) = min k.toNat xs.length
    rw [if_neg (by omega)]
  rw [e1, e2, Nat.sub_zero, List.drop_zero]
  rcases Nat.le_total k.toNat xs.length with h | h
  · rw [Nat.min_eq_left h]
  · rw [Nat.min_eq_right h, List.take_length, List.take_of_length_le h]
theorem get_at {α : Type} {xs : List α} {x : Int} (h : 0 ≤ x ∧ x < (xs.length : Int)) : ∃ p, xs[x.toNat]? = some p :=
  ⟨_, List.getElem?_eq_getElem (show x.toNat < xs.length by omega)⟩
theorem take_len {α : Type} {xs : List α} {x : Int} (h : 0 ≤ x ∧ x < (xs.length : Int)) : (xs.take x.toNat).length = x.toNat := by rw [List.length_take]; omega
theorem foldl_and {ι : Type} (t : ι → Bool) : ∀ (xs : List ι) (v : Bool), xs.foldl (fun v x => v && t x) v = (v && xs.all t)
  | [], v => by simp
  | x :: xs, v => by rw [List.foldl_cons, foldl_and t xs, List.all_cons, Bool.and_assoc]
section
variable (states : List Tx) (start : Tx) (vars chans : Vrs) (rules : List RulH) (bad : List Ptn)
def tV (x : Int) : Bool := varB 2 3 states ((vars.take x.toNat).map (·.1)) x.toNat (vars.getD x.toNat ([], [])).1 (vars.getD x.toNat ([], [])).2
def tC (x : Int) : Bool := varB 1 3 states ((vars ++ chans.take x.toNat).map (·.1)) x.toNat (chans.getD x.toNat ([], [])).1 (chans.getD x.toNat ([], [])).2
def tR (x : Int) : Bool := ruleB states vars chans ((rules.take x.toNat).map (·.1)) (rules.getD x.toNat ([], [], [], [], [], [], [], [], ()))
def tB (x : Int) : Bool := pattB states vars x.toNat (bad.getD x.toNat ([], []))
def sysB : Bool := (((statesB states start && (irange 0 (vars.length : Int)).all (tV states vars)) && (irange 0 (chans.length : Int)).all (tC states vars chans)) && (irange 0 (rules.length : Int)).all (tR states vars chans rules)) && (irange 0 (bad.length : Int)).all (tB states vars bad)
end
theorem getD_at {α : Type} {xs : List α} {i : Nat} {p d : α} (h : xs[i]? = some p) : xs.getD i d = p := by rw [List.getD_eq_getElem?_getD, h]; rfl
theorem System_is {states : List Tx} {start : Tx} {vars chans : Vrs} {rules : List RulH} {bad : List Ptn} {E : Ex → Prop} {Q : RSystem → Prop} (z : SysSmall states vars chans rules bad)
    (k : sysB states start vars chans rules bad = true → Q (mkSys states start vars chans rules bad)) (ke : sysB states start vars chans rules bad = false → E ⟨"InvalidProtocol", none⟩) : (m_System ((), states, start, vars, rules.map mkRule, bad, chans, ())).Is E Q := by
  rw [n_System]
  walk_at "wp"
  refine right_states_is (fun w hw => by have := z.s1 w hw; omega) ?_
  walk_at "wp"
  refine is_mRange (by have := z.s2.1; omega) ?_
  refine for_foldG (fun v x => v && tV states vars x) (statesB states start) (fun v l => ∃ a b c d e, l = ((), states, start, vars, rules.map mkRule, bad, chans, v, a, b, c, d, e, ())) ⟨_, _, _, _, _, rfl⟩ ?_ ?_
  · rintro x v l hx ⟨a, b, c, d, e, rfl⟩
    have hx := irange_mem.mp hx
    unfold l_System_2
    walk_at "wp"
    cases v with
    | false => exact ⟨_, _, _, _, _, rfl⟩
    | true =>
    obtain ⟨p, hp⟩ := get_at hx
    have hm := List.mem_of_getElem? hp
    rw [if_pos rfl]
    refine is_mIx p hx.1 hp ?_
    refine is_mIx p hx.1 hp ?_
    rw [cut_take hx.1]
    refine right_variable_is (by have := (z.s2.2 p hm).1; omega) (by rw [take_len hx]; have := z.s2.1; omega) (fun w hw => by have := (z.s2.2 p hm).2 w hw; omega) ?_
    walk_at "wp"
    have et : (true && tV states vars x) = varB 2 3 states ((vars.take x.toNat).map (·.1)) (vars.take x.toNat).length p.1 p.2 := by rw [take_len hx, Bool.true_and, tV, getD_at hp]
    rw [et]
    exact ⟨_, _, _, _, _, rfl⟩
  rintro v l hv ⟨a, b, c, d, e, rfl⟩
  rw [foldl_and] at hv
  walk_at "wp"
  refine is_mRange (by have := z.s3.1; omega) ?_
  refine for_foldG (fun v x => v && tC states vars chans x) v (fun v l => ∃ a b c d e, l = ((), states, start, vars, rules.map mkRule, bad, chans, v, a, b, c, d, e, ())) ⟨_, _, _, _, _, rfl⟩ ?_ ?_
  · rintro x v l hx ⟨a, b, c, d, e, rfl⟩
    have hx := irange_mem.mp hx
    unfold l_System_4
    walk_at "wp"
    obtain ⟨p, hp⟩ := get_at hx
    have hm := List.mem_of_getElem? hp
    refine is_mIx p hx.1 hp ?_
    obtain ⟨pn, pv⟩ := p
    walk_at "wp"
    cases v with
    | false => exact ⟨_, _, _, _, _, rfl⟩
    | true =>
    try rw [if_pos rfl]
    rw [cut_take hx.1]
    refine right_channel_is (by have : pn.length ≤ 1000 := (z.s3.2 _ hm).1; omega) (by rw [take_len hx]; have := z.s3.1; omega) (by have := z.s2.1; omega) (fun w hw => by have := (z.s3.2 _ hm).2 w hw; omega) ?_
    walk_at "wp"
    have et : (true && tC states vars chans x) = varB 1 3 states ((vars ++ chans.take x.toNat).map (·.1)) (chans.take x.toNat).length pn pv := by rw [take_len hx, Bool.true_and, tC, getD_at hp]
    rw [et]
    exact ⟨_, _, _, _, _, rfl⟩
  rintro v2 l hv2 ⟨a, b, c, d, e, rfl⟩
  rw [foldl_and] at hv2
  walk_at "wp"
  refine is_mRange (by have := z.s4.1; rw [List.length_map]; omega) ?_
  refine for_foldG (fun v x => v && tR states vars chans rules x) v2 (fun v l => ∃ a b c d e, l = ((), states, start, vars, rules.map mkRule, bad, chans, v, a, b, c, d, e, ())) ⟨_, _, _, _, _, rfl⟩ ?_ ?_
  · rintro x v l hx ⟨a, b, c, d, e, rfl⟩
    have hx := irange_mem.mp hx
    rw [List.length_map] at hx
    unfold l_System_7
    walk_at "wp"
    cases v with
    | false => exact ⟨_, _, _, _, _, rfl⟩
    | true =>
    obtain ⟨p, hp⟩ := get_at hx
    have hm := List.mem_of_getElem? hp
    try rw [if_pos rfl]
    refine is_mIx (mkRule p) hx.1 (by rw [List.getElem?_map, hp]; rfl) ?_
    rw [cut_take hx.1]
    refine right_rule_is (fun ps hps => by have := (z.s4.2 p hm).2 ps hps; omega) (by have := (z.s4.2 p hm).1; omega) (by rw [List.length_take, List.length_map]; have := z.s4.1; omega) (by have := z.s2.1; omega) (by have := z.s3.1; omega) ?_
    have e1 : ((rules.map mkRule).take x.toNat).map (fun r => r.1.1.1.1.1.1.1.2) = (rules.take x.toNat).map (·.1) := by
      rw [← List.map_take, List.map_map]; rfl
    rw [e1]
    walk_at "wp"
    have et : (true && tR states vars chans rules x) = ruleB states vars chans ((rules.take x.toNat).map (·.1)) p := by rw [Bool.true_and, tR, getD_at hp]
    rw [et]
    exact ⟨_, _, _, _, _, rfl⟩
  rintro v3 l hv3 ⟨a, b, c, d, e, rfl⟩
  rw [foldl_and, List.length_map] at hv3
  walk_at "wp"
  refine is_mRange (by have := z.s5.1; omega) ?_
  refine for_foldG (fun v x => v && tB states vars bad x) v3 (fun v l => ∃ a b c d e, l = ((), states, start, vars, rules.map mkRule, bad, chans, v, a, b, c, d, e, ())) ⟨_, _, _, _, _, rfl⟩ ?_ ?_
  · rintro x v l hx ⟨a, b, c, d, e, rfl⟩
    have hx := irange_mem.mp hx
    unfold l_System_9
    walk_at "wp"
    cases v with
    | false => exact ⟨_, _, _, _, _, rfl⟩
    | true =>
    obtain ⟨p, hp⟩ := get_at hx
    have hm := List.mem_of_getElem? hp
    try rw [if_pos rfl]
    refine is_mIx p hx.1 hp ?_
    rw [cut_take hx.1]
    refine right_pattern_is (by have := (z.s5.2 p hm).1; omega) (by have := (z.s5.2 p hm).2; omega) (by have := z.s2.1; omega) ?_
    walk_at "wp"
    have et : (true && tB states vars bad x) = pattB states vars (bad.take x.toNat).length p := by rw [take_len hx, Bool.true_and, tB, getD_at hp]
    rw [et]
    exact ⟨_, _, _, _, _, rfl⟩
  rintro v4 l hv4 ⟨a, b, c, d, e, rfl⟩
  rw [foldl_and] at hv4
  have hsys : sysB states start vars chans rules bad = v4 := by rw [hv4, hv3, hv2, hv]; rfl
  walk_at "wp"
  cases v4 with
  | false =>
    walk_at "wp"
    exact ke hsys
  | true =>
  have k := k hsys
  walk_at "wp"
  refine comp_map id (fun s => ∃ b d, s = ((((), states), start), states, start, vars, rules.map mkRule, bad, chans, true, a, b, c, d, e, ())) (by have := z.s2.1; omega) ⟨_, _, rfl⟩ ?_ ?_
  · rintro ⟨x, y⟩ s hx ⟨b, d, rfl⟩
    simp only [Res.is_bind]
    walk_at "wp"
    exact ⟨by first | rfl | trivial, _, _, rfl⟩
  rintro s ⟨b, d, rfl⟩
  rw [List.map_id]
  walk_at "wp"
  refine comp_map id (fun s => ∃ b c, s = (((((), states), start), vars), states, start, vars, rules.map mkRule, bad, chans, true, a, b, c, d, e, ())) (by have := z.s3.1; omega) ⟨_, _, rfl⟩ ?_ ?_
  · rintro ⟨x, y⟩ s hx ⟨b, c, rfl⟩
    simp only [Res.is_bind]
    walk_at "wp"
    exact ⟨by first | rfl | trivial, _, _, rfl⟩
  rintro s ⟨b, c, rfl⟩
  rw [List.map_id]
  walk_at "wp"
  refine comp_map id (fun s => ∃ d e, s = (((((((), states), start), vars), chans), rules.map mkRule), states, start, vars, rules.map mkRule, bad, chans, true, a, b, c, d, e, ())) (by have := z.s5.1; omega) ⟨_, _, rfl⟩ ?_ ?_
  · rintro ⟨x, y⟩ s hx ⟨d, e, rfl⟩
    have hm := z.s5.2 _ hx
    simp only [Res.is_bind]
    walk_at "wp"
    refine pairs_of_n_is (by have : x.length ≤ 100 := hm.1; omega) ?_
    walk_at "wp"
    refine pairs_of_is (by have : y.length ≤ 100 := hm.2; omega) ?_
    walk_at "wp"
    exact ⟨by first | rfl | trivial, _, _, rfl⟩
  rintro s ⟨d, e, rfl⟩
  rw [List.map_id]
  walk_at "wp"
  exact k

end W
namespace W
open PySem PySem.Spec PyProof.Rows L2 TC
local macro_rules | `(tactic| walk_at "wp") => `(tactic| ((try simp only [w_V, w_C, w_F, w_U, w_B, w_Cmp, w_And, w_Or, w_Ite, w_Chain, w_IxO, w_LenO, w_Nil, w_Cons, w_U0, w_Pair, w_CallL, w_Make, w_Lc, w_LcIf, w_Pop, w_DGet, w_DGetN, w_DIn, w_DNin, w_InO, w_NinO, w_D1, w_Range1, w_Range2, w_Set, w_Expr, w_App, w_Rev, w_Store, w_AddI, w_DPut, w_If, w_For, w_While, w_Nx, w_SeqL, w_Ret, w_RetL, w_FldNew, w_Bk, w_Ct, w_Run, gZ_eq, gS_eq, pZ_eq, pS_eq, pP_eq, pN_eq, pC_eq, c3_eq, c2_eq, iS_eq, iZ_eq, Res.is_ok, is_mAdd, is_mSub, w_AppIx, mEq_eq, mNe_eq, mLt_eq, mLe_eq, mGt_eq, mGe_eq, mIn_eq, mNin_eq, w_Er, w_ErN, w_Try, w_Cut, w_AugIx, w_mSome, w_mInl, w_mInr, mAlt_l, mAlt_r, w_noErRt, Bool.not_true, Bool.not_false, if_true, Bool.false_eq_true, if_false, decide_eq_true_eq, Bool.not_eq_true', decide_eq_false_iff_not, reduceCtorEq, decide_true, decide_false, Option.isSome_none, Option.isSome_some, Option.isNone_none, Option.isNone_some, w_Mv, mInS_eq, mNinS_eq]); (repeat (rw [rest_eq]; (try simp only [w_V, w_C, w_F, w_U, w_B, w_Cmp, w_And, w_Or, w_Ite, w_Chain, w_IxO, w_LenO, w_Nil, w_Cons, w_U0, w_Pair, w_CallL, w_Make, w_Lc, w_LcIf, w_Pop, w_DGet, w_DGetN, w_DIn, w_DNin, w_InO, w_NinO, w_D1, w_Range1, w_Range2, w_Set, w_Expr, w_App, w_Rev, w_Store, w_AddI, w_DPut, w_If, w_For, w_While, w_Nx, w_SeqL, w_Ret, w_RetL, w_FldNew, w_Bk, w_Ct, w_Run, gZ_eq, gS_eq, pZ_eq, pS_eq, pP_eq, pN_eq, pC_eq, c3_eq, c2_eq, iS_eq, iZ_eq, Res.is_ok, is_mAdd, is_mSub, w_AppIx, mEq_eq, mNe_eq, mLt_eq, mLe_eq, mGt_eq, mGe_eq, mIn_eq, mNin_eq, w_Er, w_ErN, w_Try, w_Cut, w_AugIx, w_mSome, w_mInl, w_mInr, mAlt_l, mAlt_r, w_noErRt, Bool.not_true, Bool.not_false, if_true, Bool.false_eq_true, if_false, decide_eq_true_eq, Bool.not_eq_true', decide_eq_false_iff_not, reduceCtorEq, decide_true, decide_false, Option.isSome_none, Option.isSome_some, Option.isNone_none, Option.isNone_some, w_Mv, mInS_eq, mNinS_eq])))))
abbrev idleW : Tx := [105, 100, 108, 101]
abbrev wantW : Tx := [119, 97, 110, 116]
abbrev critW : Tx := [99, 114, 105, 116]
abbrev doneW : Tx := [100, 111, 110, 101]
abbrev base4 : List Tx := [idleW, wantW, critW, doneW]
abbrev allStates : List (List Tx) := [base4.take 2, base4.take 3, base4, (base4.take 2).reverse, (base4.take 3).reverse, base4.reverse]
abbrev lockW : Tx := [108, 111, 99, 107]
abbrev freeW : Tx := [102, 114, 101, 101]
abbrev heldW : Tx := [104, 101, 108, 100]
abbrev deadW : Tx := [100, 101, 97, 100]
abbrev boxW : Tx := [98, 111, 120]
abbrev pingW : Tx := [112, 105, 110, 103]
abbrev pongW : Tx := [112, 111, 110, 103]
abbrev allVars : List Vrs := [[], [(lockW, [freeW, heldW])], [(lockW, [freeW, heldW, deadW])]]
abbrev allChans : List Vrs := [[], [(boxW, [pingW])], [(boxW, [pingW, pongW])]]
structure PairsOk (vs : Vrs) (ps : Prs) : Prop where
  sub : (ps.map (·.1)).Sublist (vs.map (·.1))
  val : ∀ p ∈ ps, ∃ v ∈ vs, v.1 = p.1 ∧ p.2 ∈ v.2
structure MovesOk (states : List Tx) (ps : Prs) : Prop where
  mv : ∀ p ∈ ps, p.1 ∈ states ∧ (p.2 ∈ states ∨ p.2 = goneW)
structure RuleOk (states : List Tx) (vars chans : Vrs) (i : Nat) (r : RulH) : Prop where
  nm : r.1 = 114 :: TL.numL i
  ac : MovesOk states r.2.1
  al : 1 ≤ r.2.1.length ∧ r.2.1.length ≤ 3
  ev : MovesOk states r.2.2.1
  es : (r.2.2.1.map (·.1)).Sublist states
  bo : r.2.2.2.1.length ≤ 2 ∧ ∀ s ∈ r.2.2.2.1, s ∈ states
  co : PairsOk vars r.2.2.2.2.1
  ef : PairsOk vars r.2.2.2.2.2.1
  he : PairsOk chans r.2.2.2.2.2.2.1
  se : PairsOk chans r.2.2.2.2.2.2.2.1
structure PattOk (states : List Tx) (vars : Vrs) (p : Ptn) : Prop where
  cs : (p.1.map (·.1)).Sublist states
  cn : ∀ q ∈ p.1, 1 ≤ q.2 ∧ q.2 ≤ 3
  vs : PairsOk vars p.2
  ne : p.1.length + p.2.length ≠ 0
theorem target_is {ds : List Int} {states : List Tx} {E : Ex → Prop} {Q : Tx × List Int → Prop} (h : states ≠ []) (k : ∀ t ds', t ∈ states ∨ t = goneW → Q (t, ds')) : (m__law_target (ds, states, ())).Is E Q := by
  have hp : 0 < states.length := List.length_pos_iff.mpr h
  unfold m__law_target
  walk_at "wp"
  refine take_is (by omega) fun i ds' _ _ => ?_
  walk_at "wp"
  split
  · exact k _ _ (.inr rfl)
  · refine take_is (by omega) fun i ds' h0 h1 => ?_
    walk_at "wp"
    refine is_mIxD [] h0 h1 ?_
    have hl : i.toNat < states.length := by omega
    refine k _ _ (.inl ?_)
    rw [List.getD_eq_getElem?_getD, List.getElem?_eq_getElem hl]
    exact List.getElem_mem hl
theorem pick_mem {α : Type} {xs : List α} {d : α} {i : Int} (h0 : 0 ≤ i) (h1 : i < (xs.length : Int)) : xs.getD i.toNat d ∈ xs := by
  have hl : i.toNat < xs.length := by omega
  rw [List.getD_eq_getElem?_getD, List.getElem?_eq_getElem hl]
  exact List.getElem_mem hl
theorem values_is {ds : List Int} {vs : Vrs} {share : Int} {E : Ex → Prop} {Q : Prs × List Int → Prop} (hl : vs.length ≤ 100) (hv : ∀ v ∈ vs, v.2 ≠ []) (k : ∀ ps ds', PairsOk vs ps → Q (ps, ds')) : (m__law_values (ds, vs, share, ())).Is E Q := by
  rw [n__law_values]
  walk_at "wp"
  refine forM_is (fun i l => ∃ ds ps z, l = (ds, vs, share, ps, z, ()) ∧ PairsOk (vs.take i) ps ∧ ps.length ≤ i) ⟨_, _, _, rfl, ⟨by simp, fun p m => by cases m⟩, Nat.le_refl _⟩ ?_ ?_
  · rintro i ⟨vn, vv⟩ l hx ⟨ds, ps, z, rfl, hp, hlen⟩
    have hm := List.mem_of_getElem? hx
    have hi : i < vs.length := (List.getElem?_eq_some_iff.mp hx).1
    have et : vs.take (i + 1) = vs.take i ++ [(vn, vv)] := by rw [List.take_add_one, hx]; rfl
    have skip : PairsOk (vs.take (i + 1)) ps := by
      rw [et]
      refine ⟨?_, fun p hm => ?_⟩
      · rw [List.map_append]; exact hp.sub.trans (List.sublist_append_left _ _)
      · obtain ⟨v, h1, h2⟩ := hp.val p hm
        exact ⟨v, List.mem_append_left _ h1, h2⟩
    unfold l__law_values_2
    walk_at "wp"
    refine take_is (by omega) fun j ds' _ _ => ?_
    walk_at "wp"
    split
    · have hv2 : 0 < vv.length := List.length_pos_iff.mpr (hv _ hm)
      refine take_is (by omega) fun j ds' h0 h1 => ?_
      walk_at "wp"
      refine is_mIxD [] h0 h1 ?_
      walk_at "wp"
      refine is_mApp (by omega) ?_
      walk_at "wp"
      refine ⟨_, _, _, rfl, ?_, by simp; omega⟩
      rw [et]
      refine ⟨?_, fun p hp2 => ?_⟩
      · rw [List.map_append, List.map_append]
        exact List.Sublist.append hp.sub (List.Sublist.refl _)
      · rcases List.mem_append.mp hp2 with h | h
        · obtain ⟨v, h1, h2⟩ := hp.val p h
          exact ⟨v, List.mem_append_left _ h1, h2⟩
        · rw [List.mem_singleton] at h
          subst h
          exact ⟨(vn, vv), List.mem_append_right _ (List.mem_singleton_self _), rfl, pick_mem h0 h1⟩
    · exact ⟨_, _, _, rfl, skip, by omega⟩
  · rintro l ⟨ds, ps, z, rfl, hp, _⟩
    rw [List.take_length] at hp
    walk_at "wp"
    exact k _ _ hp
theorem law_rule_is {ds : List Int} {name : Tx} {states : List Tx} {vars chans : Vrs} {E : Ex → Prop} {Q : RulH × List Int → Prop} {i : Nat} (hn : name = 114 :: TL.numL i) (h : states ≠ []) (hs : states.length ≤ 100) (h1 : vars.length ≤ 100 ∧ ∀ v ∈ vars, v.2 ≠ []) (h2 : chans.length ≤ 100 ∧ ∀ v ∈ chans, v.2 ≠ []) (k : ∀ r ds', RuleOk states vars chans i r → Q (r, ds')) :
    (m__law_rule (ds, name, states, vars, chans, ())).Is E Q := by
  have hp : 0 < states.length := List.length_pos_iff.mpr h
  rw [n__law_rule]
  walk_at "wp"
  refine take_is (by omega) fun j ds' h3 h4 => ?_
  walk_at "wp"
  refine is_mIxD 0 h3 (by simpa using h4) ?_
  have hq : ([1, 1, 2, 1, 2, 3] : List Int).getD j.toNat 0 ∈ ([1, 1, 2, 1, 2, 3] : List Int) := pick_mem h3 (by simpa using h4)
  generalize ([1, 1, 2, 1, 2, 3] : List Int).getD j.toNat 0 = n at hq
  have hn2 : 1 ≤ n ∧ n ≤ 3 := by
    simp only [List.mem_cons, List.not_mem_nil, or_false] at hq
    omega
  refine is_mRange (by omega) ?_
  refine forM_is (fun t l => ∃ ds ac a b c, l = (ds, name, states, vars, chans, ac, a, [], [], [], [], [], b, c, ()) ∧ ac.length = t ∧ MovesOk states ac) ⟨_, _, _, _, _, rfl, rfl, ⟨fun _ m => by cases m⟩⟩ ?_ ?_
  · rintro t x l hx ⟨ds, ac, a, b, c, rfl, ha, hm⟩
    unfold l__law_rule_2
    walk_at "wp"
    refine take_is (by omega) fun y ds2 y0 y1 => ?_
    walk_at "wp"
    refine is_mIxD [] y0 y1 ?_
    walk_at "wp"
    refine target_is h fun tg ds3 ht => ?_
    walk_at "wp"
    have htl : t < 10 := by
      have := (List.getElem?_eq_some_iff.mp hx).1
      rw [irange_length] at this; omega
    refine is_mApp (by omega) ?_
    walk_at "wp"
    refine ⟨_, _, _, _, _, rfl, by simp [ha], ⟨fun p hp2 => ?_⟩⟩
    rcases List.mem_append.mp hp2 with q | q
    · exact hm.mv p q
    · rw [List.mem_singleton] at q
      subst q
      exact ⟨pick_mem y0 y1, ht⟩
  rintro l ⟨ds, ac, a, b, c, rfl, ha, hm⟩
  rw [irange_length] at ha
  have hac : 1 ≤ ac.length ∧ ac.length ≤ 3 := by omega
  rw [rest_eq]
  refine cut1 (fun l => ∃ ds ev c, l = (ds, name, states, vars, chans, ac, a, ev, [], [], [], [], b, c, ()) ∧ MovesOk states ev ∧ (ev.map (·.1)).Sublist states) ?_ ?_
  · walk_at "wp"
    refine take_is (by omega) fun y ds2 _ _ => ?_
    walk_at "wp"
    split
    · refine forM_is (fun t l => ∃ ds ev c, l = (ds, name, states, vars, chans, ac, a, ev, [], [], [], [], b, c, ()) ∧ MovesOk states ev ∧ (ev.map (·.1)).Sublist (states.take t) ∧ ev.length ≤ t) ⟨_, _, _, rfl, ⟨fun _ m => by cases m⟩, List.nil_sublist _, Nat.le_refl _⟩ ?_ ?_
      · rintro t x l hx ⟨ds, ev, c, rfl, m1, m2, m3⟩
        have hxm := List.mem_of_getElem? hx
        have et : states.take (t + 1) = states.take t ++ [x] := by rw [List.take_add_one, hx]; rfl
        have hts : t < states.length := (List.getElem?_eq_some_iff.mp hx).1
        unfold l__law_rule_7
        walk_at "wp"
        refine take_is (by omega) fun z ds4 z0 z1 => ?_
        walk_at "wp"
        split
        · refine target_is h fun tg ds3 ht => ?_
          walk_at "wp"
          refine is_mApp (by omega) ?_
          walk_at "wp"
          refine ⟨_, _, _, rfl, ⟨fun p hp2 => ?_⟩, ?_, by simp; omega⟩
          · rcases List.mem_append.mp hp2 with q | q
            · exact m1.mv p q
            · rw [List.mem_singleton] at q
              subst q
              exact ⟨hxm, ht⟩
          · rw [et, List.map_append]
            exact List.Sublist.append m2 (List.Sublist.refl _)
        · refine ⟨_, _, _, rfl, m1, ?_, by omega⟩
          rw [et]
          exact m2.trans (List.sublist_append_left _ _)
      · rintro l ⟨ds, ev, c, rfl, m1, m2, _⟩
        rw [List.take_length] at m2
        exact ⟨_, _, _, rfl, m1, m2⟩
    · exact ⟨_, _, _, rfl, ⟨fun _ m => by cases m⟩, List.nil_sublist _⟩
  rintro l ⟨ds, ev, c, rfl, m1, m2⟩
  refine cut1 (fun l => ∃ ds a bo, l = (ds, name, states, vars, chans, ac, a, ev, bo, [], [], [], b, c, ()) ∧ bo.length ≤ 2 ∧ ∀ s ∈ bo, s ∈ states) ?_ ?_
  · walk_at "wp"
    refine take_is (by omega) fun y ds3 _ _ => ?_
    walk_at "wp"
    split
    · refine take_is (by omega) fun y ds3 y0 y1 => ?_
      walk_at "wp"
      refine is_mRange (by omega) ?_
      refine comp_any (fun s => s ∈ states) (fun s => ∃ ds a, s = (ds, name, states, vars, chans, ac, a, ev, [], [], [], [], b, c, ())) (by rw [irange_length]; omega) ⟨_, _, rfl⟩ ?_ ?_
      · rintro x s hx ⟨ds, a, rfl⟩
        simp only [Res.is_bind]
        walk_at "wp"
        refine take_is (by omega) fun z ds4 z0 z1 => ?_
        walk_at "wp"
        refine is_mIxD [] z0 z1 ?_
        exact ⟨⟨_, rfl, pick_mem z0 z1⟩, _, _, rfl⟩
      · rintro bo s hbl hb ⟨ds, a, rfl⟩
        rw [irange_length] at hbl
        have hbl : bo.length ≤ 2 := by omega
        walk_at "wp"
        exact ⟨_, _, _, rfl, hbl, hb⟩
    · exact ⟨_, _, _, rfl, Nat.zero_le _, fun _ m => by cases m⟩
  rintro l ⟨ds, a, bo, rfl, hb⟩
  walk_at "wp"
  refine values_is h1.1 h1.2 fun co d1 hco => ?_
  walk_at "wp"
  refine values_is h1.1 h1.2 fun ef d2 hef => ?_
  walk_at "wp"
  refine values_is h2.1 h2.2 fun he d3 hhe => ?_
  walk_at "wp"
  refine values_is h2.1 h2.2 fun se d4 hse => ?_
  walk_at "wp"
  exact k _ _ ⟨hn, hm, hac, m1, m2, hb, hco, hef, hhe, hse⟩

end W
namespace W
open PySem PySem.Spec PyProof.Rows L2 TC
local macro_rules | `(tactic| walk_at "wp") => `(tactic| ((try simp only [w_V, w_C, w_F, w_U, w_B, w_Cmp, w_And, w_Or, w_Ite, w_Chain, w_IxO, w_LenO, w_Nil, w_Cons, w_U0, w_Pair, w_CallL, w_Make, w_Lc, w_LcIf, w_Pop, w_DGet, w_DGetN, w_DIn, w_DNin, w_InO, w_NinO, w_D1, w_Range1, w_Range2, w_Set, w_Expr, w_App, w_Rev, w_Store, w_AddI, w_DPut, w_If, w_For, w_While, w_Nx, w_SeqL, w_Ret, w_RetL, w_FldNew, w_Bk, w_Ct, w_Run, gZ_eq, gS_eq, pZ_eq, pS_eq, pP_eq, pN_eq, pC_eq, c3_eq, c2_eq, iS_eq, iZ_eq, Res.is_ok, is_mAdd, is_mSub, w_AppIx, mEq_eq, mNe_eq, mLt_eq, mLe_eq, mGt_eq, mGe_eq, mIn_eq, mNin_eq, w_Er, w_ErN, w_Try, w_Cut, w_AugIx, w_mSome, w_mInl, w_mInr, mAlt_l, mAlt_r, w_noErRt, Bool.not_true, Bool.not_false, if_true, Bool.false_eq_true, if_false, decide_eq_true_eq, Bool.not_eq_true', decide_eq_false_iff_not, reduceCtorEq, decide_true, decide_false, Option.isSome_none, Option.isSome_some, Option.isNone_none, Option.isNone_some, w_Mv, mInS_eq, mNinS_eq]); (repeat (rw [rest_eq]; (try simp only [w_V, w_C, w_F, w_U, w_B, w_Cmp, w_And, w_Or, w_Ite, w_Chain, w_IxO, w_LenO, w_Nil, w_Cons, w_U0, w_Pair, w_CallL, w_Make, w_Lc, w_LcIf, w_Pop, w_DGet, w_DGetN, w_DIn, w_DNin, w_InO, w_NinO, w_D1, w_Range1, w_Range2, w_Set, w_Expr, w_App, w_Rev, w_Store, w_AddI, w_DPut, w_If, w_For, w_While, w_Nx, w_SeqL, w_Ret, w_RetL, w_FldNew, w_Bk, w_Ct, w_Run, gZ_eq, gS_eq, pZ_eq, pS_eq, pP_eq, pN_eq, pC_eq, c3_eq, c2_eq, iS_eq, iZ_eq, Res.is_ok, is_mAdd, is_mSub, w_AppIx, mEq_eq, mNe_eq, mLt_eq, mLe_eq, mGt_eq, mGe_eq, mIn_eq, mNin_eq, w_Er, w_ErN, w_Try, w_Cut, w_AugIx, w_mSome, w_mInl, w_mInr, mAlt_l, mAlt_r, w_noErRt, Bool.not_true, Bool.not_false, if_true, Bool.false_eq_true, if_false, decide_eq_true_eq, Bool.not_eq_true', decide_eq_false_iff_not, reduceCtorEq, decide_true, decide_false, Option.isSome_none, Option.isSome_some, Option.isNone_none, Option.isNone_some, w_Mv, mInS_eq, mNinS_eq])))))
theorem law_pattern_is {ds : List Int} {states : List Tx} {vars : Vrs} {E : Ex → Prop} {Q : Ptn × List Int → Prop} (h : states ≠ []) (hs : states.length ≤ 100) (h1 : vars.length ≤ 100 ∧ ∀ v ∈ vars, v.2 ≠ []) (k : ∀ p ds', PattOk states vars p → Q (p, ds')) :
    (m__law_pattern (ds, states, vars, ())).Is E Q := by
  have hp : 0 < states.length := List.length_pos_iff.mpr h
  rw [n__law_pattern]
  walk_at "wp"
  refine forM_is (fun t l => ∃ ds cs z, l = (ds, states, vars, cs, z, [], ()) ∧ (cs.map (·.1)).Sublist (states.take t) ∧ (∀ q ∈ cs, 1 ≤ q.2 ∧ q.2 ≤ (3 : Int)) ∧ cs.length ≤ t) ⟨_, _, _, rfl, List.nil_sublist _, (by intro q m; cases m), Nat.le_refl _⟩ ?_ ?_
  · rintro t x l hx ⟨ds, cs, z, rfl, m1, m2, m3⟩
    have et : states.take (t + 1) = states.take t ++ [x] := by rw [List.take_add_one, hx]; rfl
    have hts : t < states.length := (List.getElem?_eq_some_iff.mp hx).1
    unfold l__law_pattern_2
    walk_at "wp"
    refine take_is (by omega) fun z ds4 _ _ => ?_
    walk_at "wp"
    split
    · refine take_is (by omega) fun z ds4 z0 z1 => ?_
      walk_at "wp"
      refine is_mApp (by omega) ?_
      walk_at "wp"
      refine ⟨_, _, _, rfl, ?_, fun p hp2 => ?_, by simp; omega⟩
      · rw [et, List.map_append]
        exact List.Sublist.append m1 (List.Sublist.refl _)
      · rcases List.mem_append.mp hp2 with q | q
        · exact m2 p q
        · rw [List.mem_singleton] at q
          subst q
          dsimp only
          omega
    · refine ⟨_, _, _, rfl, ?_, m2, by omega⟩
      rw [et]
      exact m1.trans (List.sublist_append_left _ _)
  rintro l ⟨ds, cs, z, rfl, m1, m2, m3⟩
  rw [List.take_length] at m1
  walk_at "wp"
  refine values_is h1.1 h1.2 fun ps d1 hps => ?_
  walk_at "wp"
  split
  · rename_i h0
    refine is_mIxD [] (by omega) (by omega) ?_
    walk_at "wp"
    refine take_is (by omega) fun z ds4 z0 z1 => ?_
    walk_at "wp"
    refine k _ _ ⟨?_, ?_, hps, by simp⟩
    · refine List.singleton_sublist.mpr ?_
      exact pick_mem (i := (states.length : Int) - 1) (by omega) (by omega)
    · intro q hq
      rw [List.mem_singleton] at hq
      subst hq
      dsimp only
      omega
  · rename_i h0
    exact k _ _ ⟨m1, m2, hps, by dsimp only; omega⟩
abbrev Parts := List Tx × Tx × Vrs × Vrs × List RulH × List Ptn × Unit
structure PartsOk (most : Nat) (P : Parts) : Prop where
  st : P.1 ∈ allStates
  sa : P.2.1 ∈ P.1
  va : P.2.2.1 ∈ allVars
  ch : P.2.2.2.1 ∈ allChans
  rl : 1 ≤ P.2.2.2.2.1.length ∧ P.2.2.2.2.1.length ≤ most
  ru : ∀ i r, P.2.2.2.2.1[i]? = some r → RuleOk P.1 P.2.2.1 P.2.2.2.1 i r
  bl : 1 ≤ P.2.2.2.2.2.1.length ∧ P.2.2.2.2.2.1.length ≤ 2
  bo : ∀ p ∈ P.2.2.2.2.2.1, PattOk P.1 P.2.2.1 p
theorem vars_ne : ∀ vs ∈ allVars ++ allChans, vs.length ≤ 100 ∧ ∀ v ∈ vs, v.2 ≠ [] := by decide
theorem states_ne : ∀ s ∈ allStates, s ≠ [] ∧ s.length ≤ 100 := by decide
theorem law_system_is {ds : List Int} {most : Nat} {mail : Bool} {E : Ex → Prop} {Q : Parts × List Int → Prop} (hm : 1 ≤ most ∧ most ≤ 9) (k : ∀ P ds', PartsOk most P → Q (P, ds')) : (m__law_system (ds, (most : Int), mail, ())).Is E Q := by
  rw [n__law_system]
  rw [w_Run]
  refine cut1 (fun l => ∃ ds st, l = (ds, (most : Int), mail, st, [], [], [], 0, [], ()) ∧ st ∈ allStates) ?_ ?_
  · walk_at "wp"
    refine take_is (by omega) fun z ds4 z0 z1 => ?_
    walk_at "wp"
    have hc : mCut base4 none (some (2 + z)) ∈ allStates ∧ (mCut base4 none (some (2 + z))).reverse ∈ allStates := by
      have : z = 0 ∨ z = 1 ∨ z = 2 := by omega
      rcases this with rfl | rfl | rfl <;> decide +kernel
    refine take_is (by omega) fun z2 ds4 _ _ => ?_
    walk_at "wp"
    split
    · exact ⟨_, _, rfl, hc.2⟩
    · exact ⟨_, _, rfl, hc.1⟩
  rintro l ⟨ds, st, rfl, hst⟩
  obtain ⟨hs1, hs2⟩ := states_ne st hst
  have hp : 0 < st.length := List.length_pos_iff.mpr hs1
  refine cut0 (fun l => ∃ ds va, l = (ds, (most : Int), mail, st, va, [], [], 0, [], ()) ∧ va ∈ allVars) ?_ ?_
  · walk_at "wp"
    refine take_is (by omega) fun z ds4 z0 z1 => ?_
    walk_at "wp"
    refine take_is (by omega) fun y ds5 y0 y1 => ?_
    walk_at "wp"
    refine is_mIxD 0 y0 (by simpa using y1) ?_
    refine ⟨_, _, rfl, ?_⟩
    have h1 : z = 0 ∨ z = 1 := by omega
    have h2 : y = 0 ∨ y = 1 ∨ y = 2 := by omega
    rcases h1 with rfl | rfl <;> rcases h2 with rfl | rfl | rfl <;> decide +kernel
  rintro l ⟨ds, va, rfl, hva⟩
  obtain ⟨hv1, hv2⟩ := vars_ne va (List.mem_append_left _ hva)
  refine cut1 (fun l => ∃ ds ch, l = (ds, (most : Int), mail, st, va, ch, [], 0, [], ()) ∧ ch ∈ allChans) ?_ ?_
  · walk_at "wp"
    by_cases hmail : mail = true
    · rw [if_pos hmail]
      refine take_is (by omega) fun z ds4 z0 z1 => ?_
      walk_at "wp"
      split
      · refine take_is (by omega) fun y ds5 y0 y1 => ?_
        walk_at "wp"
        refine ⟨_, _, rfl, ?_⟩
        have h1 : y = 0 ∨ y = 1 := by omega
        rcases h1 with rfl | rfl <;> decide +kernel
      · exact ⟨_, _, rfl, by decide⟩
    · rw [if_neg hmail]
      exact ⟨_, _, rfl, by decide⟩
  rintro l ⟨ds, ch, rfl, hch⟩
  obtain ⟨hc1, hc2⟩ := vars_ne ch (List.mem_append_right _ hch)
  refine cut1 (fun l => ∃ ds rl a, l = (ds, (most : Int), mail, st, va, ch, rl, a, [], ()) ∧ (1 ≤ rl.length ∧ rl.length ≤ most) ∧ ∀ i r, rl[i]? = some r → RuleOk st va ch i r) ?_ ?_
  · walk_at "wp"
    refine take_is (by omega) fun z ds4 z0 z1 => ?_
    walk_at "wp"
    refine is_mRange (by omega) ?_
    refine forM_is (fun t l => ∃ ds rl a, l = (ds, (most : Int), mail, st, va, ch, rl, a, [], ()) ∧ rl.length = t ∧ ∀ i r, rl[i]? = some r → RuleOk st va ch i r) ⟨_, _, _, rfl, rfl, by intro i r h; simp at h⟩ ?_ ?_
    · rintro t x l hx ⟨ds, rl, a, rfl, h1, h2⟩
      have hl := (List.getElem?_eq_some_iff.mp hx).1
      rw [irange_length] at hl
      have hxe : x = (t : Int) := by
        have := (irange_get hx).1
        omega
      subst hxe
      unfold l__law_system_9
      walk_at "wp"
      refine is_mStr (by omega) (by omega) ?_
      walk_at "wp"
      refine is_mCat (by rw [Int.toNat_natCast]; simp [TL.numL_lt (show t < 10 by omega)]) ?_
      walk_at "wp"
      refine law_rule_is (i := t) (by rw [Int.toNat_natCast]; rfl) hs1 hs2 ⟨hv1, hv2⟩ ⟨hc1, hc2⟩ fun r ds' hr => ?_
      walk_at "wp"
      refine is_mApp (by omega) ?_
      walk_at "wp"
      refine ⟨_, _, _, rfl, by simp [h1], fun i r' hi => ?_⟩
      rw [List.getElem?_append] at hi
      split at hi
      · exact h2 i r' hi
      · rename_i hge
        have e0 : i - rl.length = 0 := by
          rcases Nat.eq_zero_or_pos (i - rl.length) with q | q
          · exact q
          · rw [List.getElem?_eq_none (by simp; omega)] at hi; cases hi
        rw [e0] at hi
        cases hi
        have : i = t := by omega
        rw [this]; exact hr
    · rintro l ⟨ds, rl, a, rfl, h1, h2⟩
      rw [irange_length] at h1
      exact ⟨_, _, _, rfl, by omega, h2⟩
  rintro l ⟨ds, rl, a, rfl, hrl, hru⟩
  walk_at "wp"
  refine take_is (by omega) fun z ds4 z0 z1 => ?_
  walk_at "wp"
  refine is_mIxD 0 z0 (by simpa using z1) ?_
  have hq : ([1, 1, 2] : List Int).getD z.toNat 0 ∈ ([1, 1, 2] : List Int) := pick_mem z0 (by simpa using z1)
  generalize ([1, 1, 2] : List Int).getD z.toNat 0 = n at hq
  have hn2 : 1 ≤ n ∧ n ≤ 2 := by
    simp only [List.mem_cons, List.not_mem_nil, or_false] at hq
    omega
  refine is_mRange (by omega) ?_
  refine comp_any (fun p => PattOk st va p) (fun s => ∃ ds a, s = (ds, (most : Int), mail, st, va, ch, rl, a, [], ())) (by rw [irange_length]; omega) ⟨_, _, rfl⟩ ?_ ?_
  · rintro x s hx ⟨ds, a, rfl⟩
    simp only [Res.is_bind]
    walk_at "wp"
    refine law_pattern_is hs1 hs2 ⟨hv1, hv2⟩ fun p ds' hpt => ?_
    walk_at "wp"
    exact ⟨⟨_, rfl, hpt⟩, _, _, rfl⟩
  · rintro bo s hbl hb ⟨ds, a, rfl⟩
    rw [irange_length] at hbl
    walk_at "wp"
    refine take_is (by omega) fun y ds5 y0 y1 => ?_
    walk_at "wp"
    refine is_mIxD [] y0 y1 ?_
    exact k _ _ ⟨hst, pick_mem y0 y1, hva, hch, hrl, hru, by dsimp only; omega, hb⟩

end W
namespace W
open PySem PySem.Spec PyProof.Rows L2 TC
local macro_rules | `(tactic| walk_at "wp") => `(tactic| ((try simp only [w_V, w_C, w_F, w_U, w_B, w_Cmp, w_And, w_Or, w_Ite, w_Chain, w_IxO, w_LenO, w_Nil, w_Cons, w_U0, w_Pair, w_CallL, w_Make, w_Lc, w_LcIf, w_Pop, w_DGet, w_DGetN, w_DIn, w_DNin, w_InO, w_NinO, w_D1, w_Range1, w_Range2, w_Set, w_Expr, w_App, w_Rev, w_Store, w_AddI, w_DPut, w_If, w_For, w_While, w_Nx, w_SeqL, w_Ret, w_RetL, w_FldNew, w_Bk, w_Ct, w_Run, gZ_eq, gS_eq, pZ_eq, pS_eq, pP_eq, pN_eq, pC_eq, c3_eq, c2_eq, iS_eq, iZ_eq, Res.is_ok, is_mAdd, is_mSub, w_AppIx, mEq_eq, mNe_eq, mLt_eq, mLe_eq, mGt_eq, mGe_eq, mIn_eq, mNin_eq, w_Er, w_ErN, w_Try, w_Cut, w_AugIx, w_mSome, w_mInl, w_mInr, mAlt_l, mAlt_r, w_noErRt, Bool.not_true, Bool.not_false, if_true, Bool.false_eq_true, if_false, decide_eq_true_eq, Bool.not_eq_true', decide_eq_false_iff_not, reduceCtorEq, decide_true, decide_false, Option.isSome_none, Option.isSome_some, Option.isNone_none, Option.isNone_some, w_Mv, mInS_eq, mNinS_eq]); (repeat (rw [rest_eq]; (try simp only [w_V, w_C, w_F, w_U, w_B, w_Cmp, w_And, w_Or, w_Ite, w_Chain, w_IxO, w_LenO, w_Nil, w_Cons, w_U0, w_Pair, w_CallL, w_Make, w_Lc, w_LcIf, w_Pop, w_DGet, w_DGetN, w_DIn, w_DNin, w_InO, w_NinO, w_D1, w_Range1, w_Range2, w_Set, w_Expr, w_App, w_Rev, w_Store, w_AddI, w_DPut, w_If, w_For, w_While, w_Nx, w_SeqL, w_Ret, w_RetL, w_FldNew, w_Bk, w_Ct, w_Run, gZ_eq, gS_eq, pZ_eq, pS_eq, pP_eq, pN_eq, pC_eq, c3_eq, c2_eq, iS_eq, iZ_eq, Res.is_ok, is_mAdd, is_mSub, w_AppIx, mEq_eq, mNe_eq, mLt_eq, mLe_eq, mGt_eq, mGe_eq, mIn_eq, mNin_eq, w_Er, w_ErN, w_Try, w_Cut, w_AugIx, w_mSome, w_mInl, w_mInr, mAlt_l, mAlt_r, w_noErRt, Bool.not_true, Bool.not_false, if_true, Bool.false_eq_true, if_false, decide_eq_true_eq, Bool.not_eq_true', decide_eq_false_iff_not, reduceCtorEq, decide_true, decide_false, Option.isSome_none, Option.isSome_some, Option.isNone_none, Option.isNone_some, w_Mv, mInS_eq, mNinS_eq])))))
theorem st_ok : ∀ s ∈ allStates, (∀ x ∈ s, statesB s x = true) ∧ s.Nodup ∧ ¬ goneW ∈ s ∧ ∀ w ∈ s, w.length ≤ 1000 := by decide +kernel
def varsOkB (lo : Nat) (s : List Tx) (before v : Vrs) : Bool := (List.range v.length).all fun i => varB lo 3 s ((before ++ v.take i).map (·.1)) i (v.getD i ([], [])).1 (v.getD i ([], [])).2
theorem va_ok : ∀ s ∈ allStates, ∀ v ∈ allVars, varsOkB 2 s [] v = true := by decide +kernel
theorem ch_ok : ∀ s ∈ allStates, ∀ v ∈ allVars, ∀ c ∈ allChans, varsOkB 1 s v c = true := by decide +kernel
theorem vars_small : ∀ vs ∈ allVars ++ allChans, vs.length ≤ 1 ∧ (vs.map (·.1)).Nodup ∧ ∀ p ∈ vs, p.1.length ≤ 1000 ∧ ∀ w ∈ p.2, w.length ≤ 1000 := by decide +kernel
theorem varsOk_at {lo : Nat} {s : List Tx} {before v : Vrs} (h : varsOkB lo s before v = true) (i : Nat) (p : Tx × List Tx) (hp : v[i]? = some p) : varB lo 3 s ((before ++ v.take i).map (·.1)) i p.1 p.2 = true := by
  have hi := (List.getElem?_eq_some_iff.mp hp).1
  have := List.all_eq_true.mp h i (List.mem_range.mpr hi)
  rwa [List.getD_eq_getElem?_getD, hp] at this
theorem name_ok : ∀ i, i < 10 → nameB (114 :: TL.numL i) = true := fun i h => by
  rw [TL.numL_lt h]
  have : ∀ i, i < 10 → nameB [114, 48 + i] = true := by decide +kernel
  exact this i h
theorem name_inj {i j : Nat} (hi : i < 10) (hj : j < 10) (h : 114 :: TL.numL i = 114 :: TL.numL j) : i = j := by
  rw [TL.numL_lt hi, TL.numL_lt hj] at h
  injection h with _ h
  injection h with h
  omega
theorem PairsOk.ok {vs : Vrs} {ps : Prs} (h : PairsOk vs ps) (hv : vs ∈ allVars ++ allChans) : valuesB vs ps = true ∧ ps.length ≤ 1 := by
  obtain ⟨h1, h2, _⟩ := vars_small vs hv
  have hl := h.sub.length_le
  rw [List.length_map, List.length_map] at hl
  refine ⟨?_, by omega⟩
  unfold valuesB
  rw [Bool.and_eq_true]
  refine ⟨List.all_eq_true.mpr fun p hp => ?_, decide_eq_true (h2.sublist h.sub)⟩
  obtain ⟨v, hv1, hv2, hv3⟩ := h.val p hp
  match vs, h1, hv1 with
  | [w], _, hv1 =>
    rw [List.mem_singleton] at hv1
    subst hv1
    unfold valueB
    rw [List.filter_cons_of_pos (by simpa using hv2)]
    simpa using hv3
theorem moves_ok {states : List Tx} {ps : Prs} (h : MovesOk states ps) : ps.all (moveB states) = true :=
  List.all_eq_true.mpr fun p hp => decide_eq_true fun z => by
    obtain ⟨h1, h2⟩ := h.mv p hp
    rcases z with z | ⟨z1, z2⟩
    · exact z h1
    · exact h2.elim z1 z2
section
variable {most : Nat} {P : Parts}
theorem PartsOk.va2 (h : PartsOk most P) : P.2.2.1 ∈ allVars ++ allChans := List.mem_append_left _ h.va
theorem PartsOk.ch2 (h : PartsOk most P) : P.2.2.2.1 ∈ allVars ++ allChans := List.mem_append_right _ h.ch
theorem PartsOk.sys (h : PartsOk most P) (hm : most ≤ 8) : SysOk P.1 P.2.1 P.2.2.1 P.2.2.2.1 P.2.2.2.2.1 P.2.2.2.2.2.1 := by
  obtain ⟨s1, s2, s3, s4⟩ := st_ok _ h.st
  refine ⟨s1 _ h.sa, fun i p hp => ?_, fun i p hp => ?_, fun i r hr => ?_, fun i p hp => ?_⟩
  · exact varsOk_at (va_ok _ h.st _ h.va) i p hp
  · exact varsOk_at (ch_ok _ h.st _ h.va _ h.ch) i p hp
  · have ro := h.ru i r hr
    have hi := (List.getElem?_eq_some_iff.mp hr).1
    have := h.rl.2
    unfold ruleB
    simp only [Bool.and_eq_true]
    refine ⟨nameOk_t (by rw [List.length_map, List.length_take]; omega) (by rw [ro.nm]; exact name_ok i (by omega)) ?_, decide_eq_true ro.al, moves_ok ro.ac, moves_ok ro.ev, decide_eq_true (s2.sublist ro.es), decide_eq_true (by have := ro.bo.1; omega), List.all_eq_true.mpr fun s hs => decide_eq_true (ro.bo.2 s hs), (ro.co.ok h.va2).1, (ro.ef.ok h.va2).1, (ro.he.ok h.ch2).1, (ro.se.ok h.ch2).1⟩
    intro hmem
    obtain ⟨q, hq, e⟩ := List.mem_map.mp hmem
    obtain ⟨j, hj, ej⟩ := List.getElem_of_mem hq
    rw [List.length_take] at hj
    have hjr : P.2.2.2.2.1[j]? = some q := by
      rw [List.getElem_take] at ej
      rw [List.getElem?_eq_getElem (by omega), ej]
    have rj := h.ru j q hjr
    rw [rj.nm, ro.nm] at e
    have := name_inj (by omega) (by omega) e
    omega
  · have po := h.bo p (List.mem_of_getElem? hp)
    have hi := (List.getElem?_eq_some_iff.mp hp).1
    have := h.bl.2
    unfold pattB
    simp only [Bool.and_eq_true]
    refine ⟨decide_eq_true fun z => by have := po.ne; omega, List.all_eq_true.mpr fun q hq => decide_eq_true ⟨po.cs.subset (List.mem_map_of_mem hq), by have := po.cn q hq; omega⟩, decide_eq_true (s2.sublist po.cs), (po.vs.ok h.va2).1⟩
theorem PartsOk.small (h : PartsOk most P) (hm : most ≤ 8) : SysSmall P.1 P.2.2.1 P.2.2.2.1 P.2.2.2.2.1 P.2.2.2.2.2.1 := by
  obtain ⟨s1, s2, s3, s4⟩ := st_ok _ h.st
  obtain ⟨v1, v2, v3⟩ := vars_small _ h.va2
  obtain ⟨c1, c2, c3⟩ := vars_small _ h.ch2
  have hs := (states_ne _ h.st).2
  have h4 : P.1.length ≤ 4 := by
    have : ∀ s ∈ allStates, s.length ≤ 4 := by decide
    exact this _ h.st
  refine ⟨s4, ⟨by omega, v3⟩, ⟨by omega, c3⟩, ⟨by have := h.rl.2; omega, fun r hr => ?_⟩, ⟨by have := h.bl.2; omega, fun p hp => ?_⟩⟩
  · obtain ⟨i, hi, e⟩ := List.getElem_of_mem hr
    have ro := h.ru i r (by rw [List.getElem?_eq_getElem hi, e])
    have := h.rl.2
    refine ⟨by rw [ro.nm, TL.numL_lt (by omega)]; simp, ?_⟩
    simp only [List.mem_cons, List.not_mem_nil, or_false, forall_eq_or_imp, forall_eq]
    have he := ro.es.length_le
    rw [List.length_map] at he
    refine ⟨by have := ro.al; omega, by omega, by have := (ro.co.ok h.va2).2; omega, by have := (ro.ef.ok h.va2).2; omega, by have := (ro.he.ok h.ch2).2; omega, by have := (ro.se.ok h.ch2).2; omega⟩
  · have po := h.bo p hp
    have he := po.cs.length_le
    rw [List.length_map] at he
    exact ⟨by omega, by have := (po.vs.ok h.va2).2; omega⟩
def sysOf (P : Parts) : RSystem := mkSys P.1 P.2.1 P.2.2.1 P.2.2.2.1 P.2.2.2.2.1 P.2.2.2.2.2.1
theorem sysB_of {states : List Tx} {start : Tx} {vars chans : Vrs} {rules : List RulH} {bad : List Ptn} (h : SysOk states start vars chans rules bad) : sysB states start vars chans rules bad = true := by
  unfold sysB
  simp only [Bool.and_eq_true]
  refine ⟨⟨⟨⟨h.b1, List.all_eq_true.mpr fun x hx => ?_⟩, List.all_eq_true.mpr fun x hx => ?_⟩, List.all_eq_true.mpr fun x hx => ?_⟩, List.all_eq_true.mpr fun x hx => ?_⟩
  · obtain ⟨p, hp⟩ := get_at (irange_mem.mp hx)
    rw [tV, getD_at hp]; exact h.b2 _ _ hp
  · obtain ⟨p, hp⟩ := get_at (irange_mem.mp hx)
    rw [tC, getD_at hp]; exact h.b3 _ _ hp
  · obtain ⟨p, hp⟩ := get_at (irange_mem.mp hx)
    rw [tR, getD_at hp]; exact h.b4 _ _ hp
  · obtain ⟨p, hp⟩ := get_at (irange_mem.mp hx)
    rw [tB, getD_at hp]; exact h.b5 _ _ hp
def sysBP (P : Parts) : Bool := sysB P.1 P.2.1 P.2.2.1 P.2.2.2.1 P.2.2.2.2.1 P.2.2.2.2.2.1
theorem made_is {E : Ex → Prop} {Q : RSystem → Prop} (z : SysSmall P.1 P.2.2.1 P.2.2.2.1 P.2.2.2.2.1 P.2.2.2.2.2.1) (k : sysBP P = true → Q (sysOf P)) (ke : sysBP P = false → E ⟨"InvalidProtocol", none⟩) : (m__law_made (P, ())).Is E Q := by
  obtain ⟨st, sa, va, ch, rl, bd, u⟩ := P
  dsimp only at z
  rw [n__law_made, w_Run]
  walk_at "wp"
  refine forM_is (fun t l => ∃ rh a b c d e f g i, l = ((st, sa, va, ch, rl, bd, u), (rl.take t).map mkRule, rh, [], [], [], st, sa, va, ch, rl, bd, a, b, c, d, e, f, g, i, ([], []), ([], []), ())) ⟨_, _, _, _, _, _, _, _, _, rfl⟩ ?_ ?_
  · rintro t ⟨n, ac, ev, bo, co, ef, he, se, u2⟩ l hx ⟨rh, a, b, c, d, e, f, g, i, rfl⟩
    have hm := List.mem_of_getElem? hx
    have hr := z.s4.2 _ hm
    unfold l__law_made_3
    walk_at "wp"
    refine Rule_is (r := (n, ac, ev, bo, co, ef, he, se, ())) (fun ps hps => by have := hr.2 ps hps; omega) ?_
    walk_at "wp"
    refine is_mApp (by rw [List.length_map, List.length_take]; have := z.s4.1; omega) ?_
    walk_at "wp"
    have et : (rl.take (t + 1)).map mkRule = (rl.take t).map mkRule ++ [mkRule (n, ac, ev, bo, co, ef, he, se, ())] := by
      rw [List.take_add_one, hx, List.map_append]; rfl
    rw [et]
    exact ⟨_, _, _, _, _, _, _, _, _, rfl⟩
  rintro l ⟨rh, a, b, c, d, e, f, g, i, rfl⟩
  rw [List.take_length]
  walk_at "wp"
  refine comp_map id (fun s => ∃ p, s = ((st, sa, va, ch, rl, bd, u), rl.map mkRule, rh, [], [], [], st, sa, va, ch, rl, bd, a, b, c, d, e, f, g, i, p, ([], []), ())) (by have := z.s5.1; omega) ⟨_, rfl⟩ ?_ ?_
  · rintro ⟨x, y⟩ s hx ⟨p, rfl⟩
    simp only [Res.is_bind]
    walk_at "wp"
    exact ⟨by first | rfl | trivial, _, rfl⟩
  rintro s ⟨p, rfl⟩
  rw [List.map_id]
  walk_at "wp"
  refine comp_map id (fun s => ∃ q, s = ((st, sa, va, ch, rl, bd, u), rl.map mkRule, rh, bd, [], [], st, sa, va, ch, rl, bd, a, b, c, d, e, f, g, i, p, q, ())) (by have := z.s2.1; omega) ⟨_, rfl⟩ ?_ ?_
  · rintro ⟨x, y⟩ s hx ⟨p, rfl⟩
    simp only [Res.is_bind]
    walk_at "wp"
    exact ⟨by first | rfl | trivial, _, rfl⟩
  rintro s ⟨q, rfl⟩
  rw [List.map_id]
  walk_at "wp"
  refine comp_map id (fun s => ∃ q, s = ((st, sa, va, ch, rl, bd, u), rl.map mkRule, rh, bd, va, [], st, sa, va, ch, rl, bd, a, b, c, d, e, f, g, i, p, q, ())) (by have := z.s3.1; omega) ⟨_, rfl⟩ ?_ ?_
  · rintro ⟨x, y⟩ s hx ⟨p, rfl⟩
    simp only [Res.is_bind]
    walk_at "wp"
    exact ⟨by first | rfl | trivial, _, rfl⟩
  rintro s ⟨q, rfl⟩
  rw [List.map_id]
  walk_at "wp"
  exact System_is z k ke
end

end W
namespace W
open PySem PySem.Spec PyProof.Rows L2 TC
local macro_rules | `(tactic| walk_at "wp") => `(tactic| ((try simp only [w_V, w_C, w_F, w_U, w_B, w_Cmp, w_And, w_Or, w_Ite, w_Chain, w_IxO, w_LenO, w_Nil, w_Cons, w_U0, w_Pair, w_CallL, w_Make, w_Lc, w_LcIf, w_Pop, w_DGet, w_DGetN, w_DIn, w_DNin, w_InO, w_NinO, w_D1, w_Range1, w_Range2, w_Set, w_Expr, w_App, w_Rev, w_Store, w_AddI, w_DPut, w_If, w_For, w_While, w_Nx, w_SeqL, w_Ret, w_RetL, w_FldNew, w_Bk, w_Ct, w_Run, gZ_eq, gS_eq, pZ_eq, pS_eq, pP_eq, pN_eq, pC_eq, c3_eq, c2_eq, iS_eq, iZ_eq, Res.is_ok, is_mAdd, is_mSub, w_AppIx, mEq_eq, mNe_eq, mLt_eq, mLe_eq, mGt_eq, mGe_eq, mIn_eq, mNin_eq, w_Er, w_ErN, w_Try, w_Cut, w_AugIx, w_mSome, w_mInl, w_mInr, mAlt_l, mAlt_r, w_noErRt, Bool.not_true, Bool.not_false, if_true, Bool.false_eq_true, if_false, decide_eq_true_eq, Bool.not_eq_true', decide_eq_false_iff_not, reduceCtorEq, decide_true, decide_false, Option.isSome_none, Option.isSome_some, Option.isNone_none, Option.isNone_some, w_Mv, mInS_eq, mNinS_eq]); (repeat (rw [rest_eq]; (try simp only [w_V, w_C, w_F, w_U, w_B, w_Cmp, w_And, w_Or, w_Ite, w_Chain, w_IxO, w_LenO, w_Nil, w_Cons, w_U0, w_Pair, w_CallL, w_Make, w_Lc, w_LcIf, w_Pop, w_DGet, w_DGetN, w_DIn, w_DNin, w_InO, w_NinO, w_D1, w_Range1, w_Range2, w_Set, w_Expr, w_App, w_Rev, w_Store, w_AddI, w_DPut, w_If, w_For, w_While, w_Nx, w_SeqL, w_Ret, w_RetL, w_FldNew, w_Bk, w_Ct, w_Run, gZ_eq, gS_eq, pZ_eq, pS_eq, pP_eq, pN_eq, pC_eq, c3_eq, c2_eq, iS_eq, iZ_eq, Res.is_ok, is_mAdd, is_mSub, w_AppIx, mEq_eq, mNe_eq, mLt_eq, mLe_eq, mGt_eq, mGe_eq, mIn_eq, mNin_eq, w_Er, w_ErN, w_Try, w_Cut, w_AugIx, w_mSome, w_mInl, w_mInr, mAlt_l, mAlt_r, w_noErRt, Bool.not_true, Bool.not_false, if_true, Bool.false_eq_true, if_false, decide_eq_true_eq, Bool.not_eq_true', decide_eq_false_iff_not, reduceCtorEq, decide_true, decide_false, Option.isSome_none, Option.isSome_some, Option.isNone_none, Option.isNone_some, w_Mv, mInS_eq, mNinS_eq])))))
section
variable {P : Parts}
theorem outcome_is {E : Ex → Prop} {Q : Option RSystem → Prop} (z : SysSmall P.1 P.2.2.1 P.2.2.2.1 P.2.2.2.2.1 P.2.2.2.2.2.1) (k : sysBP P = true → Q (some (sysOf P))) (ke : sysBP P = false → Q none) : (m__law_outcome (P, ())).Is E Q := by
  unfold m__law_outcome
  walk_at "wp"
  refine made_is z (fun h => k h) fun h => ?_
  dsimp only
  rw [if_pos rfl]
  walk_at "wp"
  show (noEr (kRet (kC none) () : Out Unit Unit (Option RSystem))).Is _ _ _ _ _
  have e : (noEr (kRet (kC none) ()) : Out Unit Unit (Option RSystem)) = .rt none := rfl
  rw [e]
  rw [Out.is_rt]
  exact ke h
theorem kept_is {ps : Prs} {E : Ex → Prop} {Q : Bool → Prop} (hl : ps.length ≤ 1000) (k : Q true) : (m__law_is_kept (ps, ps, ())).Is E Q := by
  unfold m__law_is_kept
  walk_at "wp"
  refine comp_map id (fun s => ∃ p, s = (ps, ps, p, ())) (by omega) ⟨_, rfl⟩ ?_ ?_
  · rintro ⟨x, y⟩ s hx ⟨p, rfl⟩
    simp only [Res.is_bind]
    walk_at "wp"
    exact ⟨by first | rfl | trivial, _, rfl⟩
  rintro s ⟨p, rfl⟩
  rw [List.map_id]
  rw [decide_eq_true rfl]
  exact k
theorem rule_is {r : RulH} {E : Ex → Prop} {Q : Bool → Prop} (h : ∀ ps ∈ [r.2.1, r.2.2.1, r.2.2.2.2.1, r.2.2.2.2.2.1, r.2.2.2.2.2.2.1, r.2.2.2.2.2.2.2.1], ps.length ≤ 1000) (k : Q true) : (m__law_is_rule (mkRule r, r, ())).Is E Q := by
  obtain ⟨a, b, c, d, e, f, g, i, u⟩ := r
  simp only [List.mem_cons, List.not_mem_nil, or_false, forall_eq_or_imp, forall_eq] at h
  obtain ⟨h1, h2, h3, h4, h5, h6⟩ := h
  unfold m__law_is_rule mkRule
  walk_at "wp"
  rw [if_neg (fun h => h trivial), if_neg (fun h => h trivial)]
  refine kept_is h1 ?_
  rw [if_neg (by decide)]
  refine kept_is h2 ?_
  rw [if_neg (by decide)]
  refine kept_is h3 ?_
  rw [if_neg (by decide)]
  refine kept_is h4 ?_
  rw [if_neg (by decide)]
  refine kept_is h5 ?_
  rw [if_pos rfl]
  exact kept_is h6 k
theorem system_is {E : Ex → Prop} {Q : Bool → Prop} (z : SysSmall P.1 P.2.2.1 P.2.2.2.1 P.2.2.2.2.1 P.2.2.2.2.2.1) (k : Q true) : (m__law_is_system (sysOf P, P, ())).Is E Q := by
  obtain ⟨st, sa, va, ch, rl, bd, u⟩ := P
  dsimp only at z
  rw [n__law_is_system]
  unfold sysOf mkSys
  walk_at "wp"
  rw [if_neg (fun h => h trivial), if_neg (fun h => h trivial), if_neg (fun h => h (by rw [List.length_map]))]
  refine comp_map id (fun s => ∃ p, s = ((((((((), st), sa), va), ch), rl.map mkRule), bd), (st, sa, va, ch, rl, bd, u), 0, [], ([], []), p, ())) (by have := z.s2.1; omega) ⟨_, rfl⟩ ?_ ?_
  · rintro ⟨x, y⟩ s hx ⟨p, rfl⟩
    simp only [Res.is_bind]
    walk_at "wp"
    exact ⟨by first | rfl | trivial, _, rfl⟩
  rintro s ⟨p, rfl⟩
  rw [List.map_id]
  rw [if_neg (fun h => h rfl)]
  walk_at "wp"
  refine comp_map id (fun s => ∃ q, s = ((((((((), st), sa), va), ch), rl.map mkRule), bd), (st, sa, va, ch, rl, bd, u), 0, [], ([], []), q, ())) (by have := z.s3.1; omega) ⟨_, rfl⟩ ?_ ?_
  · rintro ⟨x, y⟩ s hx ⟨p, rfl⟩
    simp only [Res.is_bind]
    walk_at "wp"
    exact ⟨by first | rfl | trivial, _, rfl⟩
  rintro s ⟨p, rfl⟩
  rw [List.map_id]
  rw [if_neg (fun h => h rfl)]
  walk_at "wp"
  refine is_mRange (by have := z.s4.1; omega) ?_
  refine for_keep (fun l => ∃ a, l = ((((((((), st), sa), va), ch), rl.map mkRule), bd), (st, sa, va, ch, rl, bd, u), a, [], ([], []), p, ())) ⟨_, rfl⟩ ?_ ?_
  · rintro x l hx ⟨a, rfl⟩
    have hx := irange_mem.mp hx
    obtain ⟨r, hr⟩ := get_at hx
    have hm := List.mem_of_getElem? hr
    unfold l__law_is_system_7
    walk_at "wp"
    refine is_mIx (mkRule r) hx.1 (by rw [List.getElem?_map, hr]; rfl) ?_
    refine is_mIx r hx.1 hr ?_
    refine rule_is (fun ps hps => by have := (z.s4.2 r hm).2 ps hps; omega) ?_
    walk_at "wp"
    exact ⟨_, rfl⟩
  rintro l ⟨a, rfl⟩
  walk_at "wp"
  refine comp_map id (fun s => ∃ q, s = ((((((((), st), sa), va), ch), rl.map mkRule), bd), (st, sa, va, ch, rl, bd, u), a, [], q, p, ())) (by have := z.s5.1; omega) ⟨_, rfl⟩ ?_ ?_
  · rintro ⟨x, y⟩ s hx ⟨q, rfl⟩
    simp only [Res.is_bind]
    walk_at "wp"
    exact ⟨by first | rfl | trivial, _, rfl⟩
  rintro s ⟨q, rfl⟩
  rw [List.map_id]
  walk_at "wp"
  exact k
end

end W
namespace W
open PySem PySem.Spec PyProof.Rows L2 TC
local macro_rules | `(tactic| walk_at "wp") => `(tactic| ((try simp only [w_V, w_C, w_F, w_U, w_B, w_Cmp, w_And, w_Or, w_Ite, w_Chain, w_IxO, w_LenO, w_Nil, w_Cons, w_U0, w_Pair, w_CallL, w_Make, w_Lc, w_LcIf, w_Pop, w_DGet, w_DGetN, w_DIn, w_DNin, w_InO, w_NinO, w_D1, w_Range1, w_Range2, w_Set, w_Expr, w_App, w_Rev, w_Store, w_AddI, w_DPut, w_If, w_For, w_While, w_Nx, w_SeqL, w_Ret, w_RetL, w_FldNew, w_Bk, w_Ct, w_Run, gZ_eq, gS_eq, pZ_eq, pS_eq, pP_eq, pN_eq, pC_eq, c3_eq, c2_eq, iS_eq, iZ_eq, Res.is_ok, is_mAdd, is_mSub, w_AppIx, mEq_eq, mNe_eq, mLt_eq, mLe_eq, mGt_eq, mGe_eq, mIn_eq, mNin_eq, w_Er, w_ErN, w_Try, w_Cut, w_AugIx, w_mSome, w_mInl, w_mInr, mAlt_l, mAlt_r, w_noErRt, Bool.not_true, Bool.not_false, if_true, Bool.false_eq_true, if_false, decide_eq_true_eq, Bool.not_eq_true', decide_eq_false_iff_not, reduceCtorEq, decide_true, decide_false, Option.isSome_none, Option.isSome_some, Option.isNone_none, Option.isNone_some, w_Mv, mInS_eq, mNinS_eq]); (repeat (rw [rest_eq]; (try simp only [w_V, w_C, w_F, w_U, w_B, w_Cmp, w_And, w_Or, w_Ite, w_Chain, w_IxO, w_LenO, w_Nil, w_Cons, w_U0, w_Pair, w_CallL, w_Make, w_Lc, w_LcIf, w_Pop, w_DGet, w_DGetN, w_DIn, w_DNin, w_InO, w_NinO, w_D1, w_Range1, w_Range2, w_Set, w_Expr, w_App, w_Rev, w_Store, w_AddI, w_DPut, w_If, w_For, w_While, w_Nx, w_SeqL, w_Ret, w_RetL, w_FldNew, w_Bk, w_Ct, w_Run, gZ_eq, gS_eq, pZ_eq, pS_eq, pP_eq, pN_eq, pC_eq, c3_eq, c2_eq, iS_eq, iZ_eq, Res.is_ok, is_mAdd, is_mSub, w_AppIx, mEq_eq, mNe_eq, mLt_eq, mLe_eq, mGt_eq, mGe_eq, mIn_eq, mNin_eq, w_Er, w_ErN, w_Try, w_Cut, w_AugIx, w_mSome, w_mInl, w_mInr, mAlt_l, mAlt_r, w_noErRt, Bool.not_true, Bool.not_false, if_true, Bool.false_eq_true, if_false, decide_eq_true_eq, Bool.not_eq_true', decide_eq_false_iff_not, reduceCtorEq, decide_true, decide_false, Option.isSome_none, Option.isSome_some, Option.isNone_none, Option.isNone_some, w_Mv, mInS_eq, mNinS_eq])))))
abbrev nowhereW : Tx := [110, 111, 119, 104, 101, 114, 101]
abbrev lostW : Tx := [108, 111, 115, 116]
abbrev keyW : Tx := [107, 101, 121]
abbrev pangW : Tx := [112, 97, 110, 103]
abbrev postW : Tx := [112, 111, 115, 116]
abbrev badNames : List Tx := [[], [82, 117, 108, 101], [105, 102], [57, 97], goneW, [97, 95, 98]]
theorem badNames_no : ∀ n ∈ badNames, nameB n = false := by decide +kernel
structure RuleBad (states : List Tx) (vars chans : Vrs) (r : RulH) : Prop where
  b : ∀ earlier, ruleB states vars chans earlier r = false
  n : r.1.length ≤ 1000
  s : ∀ ps ∈ [r.2.1, r.2.2.1, r.2.2.2.2.1, r.2.2.2.2.2.1, r.2.2.2.2.2.2.1, r.2.2.2.2.2.2.2.1], ps.length ≤ 100
structure RuleSmall (r : RulH) : Prop where
  n : r.1.length ≤ 1000
  s : ∀ ps ∈ [r.2.1, r.2.2.1, r.2.2.2.2.1, r.2.2.2.2.2.1, r.2.2.2.2.2.2.1, r.2.2.2.2.2.2.2.1], ps.length ≤ 100
theorem values_bad : ∀ v ∈ allVars, valuesB v [(lockW, lostW)] = false ∧ valuesB v [(keyW, freeW)] = false ∧ valuesB v [(lockW, freeW), (lockW, freeW)] = false := by decide +kernel
theorem chans_bad : ∀ v ∈ allChans, valuesB v [(boxW, pangW)] = false ∧ valuesB v [(postW, pingW)] = false ∧ valuesB v [(boxW, pingW), (boxW, pingW)] = false := by decide +kernel
theorem moves_bad : ∀ s ∈ allStates, (∀ a ∈ [[], [(s.getD 0 [], s.getD 1 []), (s.getD 0 [], s.getD 1 []), (s.getD 0 [], s.getD 1 []), (s.getD 0 [], s.getD 1 [])], [(nowhereW, s.getD 0 [])], [(s.getD 0 [], nowhereW)], [(goneW, s.getD 0 [])]], (decide (1 ≤ a.length ∧ a.length ≤ 3) && a.all (moveB s)) = false) ∧
    diffB ([(s.getD 0 [], s.getD 1 []), (s.getD 0 [], s.getD 0 [])].map (·.1)) = false ∧ moveB s (nowhereW, goneW) = false ∧ (∀ b ∈ [[s.getD 0 [], s.getD 0 [], s.getD 0 [], s.getD 0 []], [goneW], [nowhereW]], (decide (b.length ≤ 3) && bornB s b) = false) := by decide +kernel
section
variable {states : List Tx} {vars chans : Vrs} {n : Tx} {ac ev : Prs} {bo : List Tx} {co ef he se : Prs} {earlier : List Tx}
theorem rb0 (h : nameB n = false) : ruleB states vars chans earlier (n, ac, ev, bo, co, ef, he, se, ()) = false := by
  have : nameOk 8 earlier n = false := decide_eq_false fun z => z (.inr (.inl (by rw [h]; decide)))
  unfold ruleB; dsimp only; rw [this]; simp
theorem rb1 (h : (decide (1 ≤ ac.length ∧ ac.length ≤ 3) && ac.all (moveB states)) = false) : ruleB states vars chans earlier (n, ac, ev, bo, co, ef, he, se, ()) = false := by
  unfold ruleB; dsimp only
  rcases Bool.and_eq_false_iff.mp h with h | h <;> rw [h] <;> simp
theorem rb2 (h : ev.all (moveB states) = false) : ruleB states vars chans earlier (n, ac, ev, bo, co, ef, he, se, ()) = false := by
  unfold ruleB; dsimp only; rw [h]; simp
theorem rb3 (h : diffB (ev.map (·.1)) = false) : ruleB states vars chans earlier (n, ac, ev, bo, co, ef, he, se, ()) = false := by
  unfold ruleB; dsimp only; rw [h]; simp
theorem rb4 (h : (decide (bo.length ≤ 3) && bornB states bo) = false) : ruleB states vars chans earlier (n, ac, ev, bo, co, ef, he, se, ()) = false := by
  unfold ruleB; dsimp only
  rcases Bool.and_eq_false_iff.mp h with h | h <;> rw [h] <;> simp
theorem rb5 (h : valuesB vars co = false) : ruleB states vars chans earlier (n, ac, ev, bo, co, ef, he, se, ()) = false := by
  unfold ruleB; dsimp only; rw [h]; simp
theorem rb6 (h : valuesB vars ef = false) : ruleB states vars chans earlier (n, ac, ev, bo, co, ef, he, se, ()) = false := by
  unfold ruleB; dsimp only; rw [h]; simp
theorem rb7 (h : valuesB chans he = false) : ruleB states vars chans earlier (n, ac, ev, bo, co, ef, he, se, ()) = false := by
  unfold ruleB; dsimp only; rw [h]; simp
theorem rb8 (h : valuesB chans se = false) : ruleB states vars chans earlier (n, ac, ev, bo, co, ef, he, se, ()) = false := by
  unfold ruleB; dsimp only; rw [h]; simp
end
theorem spoilt_rule_is {ds : List Int} {r : RulH} {states : List Tx} {vars chans : Vrs} {E : Ex → Prop} {Q : RulH × List Int → Prop} (hs : states ∈ allStates) (hv : vars ∈ allVars) (hc : chans ∈ allChans) (hr : RuleSmall r) (k : ∀ r' ds', RuleBad states vars chans r' → Q (r', ds')) : (m__law_spoilt_rule (ds, r, states, ())).Is E Q := by
  obtain ⟨n0, ac0, ev0, bo0, co0, ef0, he0, se0, u⟩ := r
  unfold m__law_spoilt_rule
  have hst2 := (states_ne _ hs).1
  have hs2 : 2 ≤ states.length := by
    have : ∀ s ∈ allStates, 2 ≤ s.length := by decide
    exact this _ hs
  obtain ⟨mb1, mb2, mb3, mb4⟩ := moves_bad _ hs
  obtain ⟨vb1, vb2, vb3⟩ := values_bad _ hv
  obtain ⟨cb1, cb2, cb3⟩ := chans_bad _ hc
  rw [w_Run]
  refine cut1 (fun l => ∃ ds kind, l = (ds, (n0, ac0, ev0, bo0, co0, ef0, he0, se0, u), states, kind, n0, ac0, ev0, bo0, co0, ef0, he0, se0, ()) ∧ 0 ≤ kind ∧ kind < 12) ?_ ?_
  · walk_at "wp"
    refine take_is (by omega) fun i ds' i0 i1 => ?_
    walk_at "wp"
    exact ⟨_, _, rfl, i0, i1⟩
  rintro l ⟨ds, kind, rfl, k0, k1⟩
  have start : RuleSmall (n0, ac0, ev0, bo0, co0, ef0, he0, se0, ()) := ⟨hr.n, hr.s⟩
  have inv : (kind < 0 ∧ RuleBad states vars chans (n0, ac0, ev0, bo0, co0, ef0, he0, se0, ())) ∨ (0 ≤ kind ∧ RuleSmall (n0, ac0, ev0, bo0, co0, ef0, he0, se0, ())) := .inr ⟨k0, start⟩
  clear start hr
  refine cut0 (fun l => ∃ ds n ac ev bo co ef he se, l = (ds, (n0, ac0, ev0, bo0, co0, ef0, he0, se0, u), states, kind, n, ac, ev, bo, co, ef, he, se, ()) ∧ ((kind < 1 ∧ RuleBad states vars chans (n, ac, ev, bo, co, ef, he, se, ())) ∨ (1 ≤ kind ∧ RuleSmall (n, ac, ev, bo, co, ef, he, se, ())))) ?_ ?_
  · walk_at "wp"
    by_cases hk : kind = 0
    case neg =>
      rw [if_neg hk]
      exact ⟨_, _, _, _, _, _, _, _, _, rfl, inv.elim (fun h => .inl ⟨by omega, h.2⟩) (fun h => .inr ⟨by omega, h.2⟩)⟩
    rw [if_pos hk]
    have sm : RuleSmall (n0, ac0, ev0, bo0, co0, ef0, he0, se0, ()) := inv.elim (fun h => absurd h.1 (by omega)) (·.2)
    refine take_is (by omega) fun i ds' i0 i1 => ?_
    walk_at "wp"
    refine is_mIxD [] i0 (by simpa using i1) ?_
    have hq : badNames.getD i.toNat [] ∈ badNames := pick_mem i0 (by simpa using i1)
    have hl : ∀ n ∈ badNames, n.length ≤ 1000 := by decide
    walk_at "wp"
    exact ⟨_, _, _, _, _, _, _, _, _, rfl, .inl ⟨by omega, ⟨fun _ => rb0 (badNames_no _ hq), hl _ hq, by
      have h5 := sm.s
      simp only [List.mem_cons, List.not_mem_nil, or_false, forall_eq_or_imp, forall_eq] at h5 ⊢
      obtain ⟨a1, a2, a3, a4, a5, a6⟩ := h5
      refine ⟨?_, ?_, ?_, ?_, ?_, ?_⟩ <;> first | assumption | simp | (simp; omega)⟩⟩⟩
  clear inv
  rintro l ⟨ds, n, ac, ev, bo, co, ef, he, se, rfl, inv⟩
  refine cut0 (fun l => ∃ ds n ac ev bo co ef he se, l = (ds, (n0, ac0, ev0, bo0, co0, ef0, he0, se0, u), states, kind, n, ac, ev, bo, co, ef, he, se, ()) ∧ ((kind < 2 ∧ RuleBad states vars chans (n, ac, ev, bo, co, ef, he, se, ())) ∨ (2 ≤ kind ∧ RuleSmall (n, ac, ev, bo, co, ef, he, se, ())))) ?_ ?_
  · walk_at "wp"
    by_cases hk : kind = 1
    case neg =>
      rw [if_neg hk]
      exact ⟨_, _, _, _, _, _, _, _, _, rfl, inv.elim (fun h => .inl ⟨by omega, h.2⟩) (fun h => .inr ⟨by omega, h.2⟩)⟩
    rw [if_pos hk]
    have sm : RuleSmall (n, ac, ev, bo, co, ef, he, se, ()) := inv.elim (fun h => absurd h.1 (by omega)) (·.2)
    refine is_mIxD [] (Int.le_refl _) (by omega) ?_
    refine is_mIxD [] (by decide) (by omega) ?_
    refine is_mRep (by omega) (by simp) ?_
    refine is_mIxD [] (Int.le_refl _) (by omega) ?_
    refine is_mIxD [] (Int.le_refl _) (by omega) ?_
    walk_at "wp"
    refine take_is (by omega) fun i ds' i0 i1 => ?_
    walk_at "wp"
    refine is_mIxD [] i0 (by simpa using i1) ?_
    have hq := pick_mem (xs := ([[], (List.replicate (4 : Int).toNat [(states.getD (0 : Int).toNat [], states.getD (1 : Int).toNat [])]).flatten, [(nowhereW, states.getD (0 : Int).toNat [])], [(states.getD (0 : Int).toNat [], nowhereW)]] : List Prs)) (d := []) i0 (by simpa using i1)
    generalize List.getD _ i.toNat [] = a at hq
    have ha : (decide (1 ≤ a.length ∧ a.length ≤ 3) && a.all (moveB states)) = false ∧ a.length ≤ 100 := by
      simp only [List.mem_cons, List.not_mem_nil, or_false] at hq
      rcases hq with e | e | e | e
      · subst e; exact ⟨mb1 _ (by simp), by simp⟩
      · subst e; exact ⟨mb1 _ (by right; left), by simp⟩
      · subst e; exact ⟨mb1 _ (by right; right; left), by simp⟩
      · subst e; exact ⟨mb1 _ (by right; right; right; left), by simp⟩
    have ha2 := ha.2
    walk_at "wp"
    exact ⟨_, _, _, _, _, _, _, _, _, rfl, .inl ⟨by omega, ⟨fun _ => rb1 ha.1, sm.n, by
      have h5 := sm.s
      simp only [List.mem_cons, List.not_mem_nil, or_false, forall_eq_or_imp, forall_eq] at h5 ⊢
      obtain ⟨a1, a2, a3, a4, a5, a6⟩ := h5
      refine ⟨?_, ?_, ?_, ?_, ?_, ?_⟩ <;> first | assumption | simp | (simp; omega)⟩⟩⟩
  clear inv
  rintro l ⟨ds, n, ac, ev, bo, co, ef, he, se, rfl, inv⟩
  refine cut0 (fun l => ∃ ds n ac ev bo co ef he se, l = (ds, (n0, ac0, ev0, bo0, co0, ef0, he0, se0, u), states, kind, n, ac, ev, bo, co, ef, he, se, ()) ∧ ((kind < 3 ∧ RuleBad states vars chans (n, ac, ev, bo, co, ef, he, se, ())) ∨ (3 ≤ kind ∧ RuleSmall (n, ac, ev, bo, co, ef, he, se, ())))) ?_ ?_
  · walk_at "wp"
    by_cases hk : kind = 2
    case neg =>
      rw [if_neg hk]
      exact ⟨_, _, _, _, _, _, _, _, _, rfl, inv.elim (fun h => .inl ⟨by omega, h.2⟩) (fun h => .inr ⟨by omega, h.2⟩)⟩
    rw [if_pos hk]
    have sm : RuleSmall (n, ac, ev, bo, co, ef, he, se, ()) := inv.elim (fun h => absurd h.1 (by omega)) (·.2)
    refine is_mIxD [] (Int.le_refl _) (by omega) ?_
    walk_at "wp"
    exact ⟨_, _, _, _, _, _, _, _, _, rfl, .inl ⟨by omega, ⟨fun _ => rb1 (mb1 _ (by right; right; right; right; left)), sm.n, by
      have h5 := sm.s
      simp only [List.mem_cons, List.not_mem_nil, or_false, forall_eq_or_imp, forall_eq] at h5 ⊢
      obtain ⟨a1, a2, a3, a4, a5, a6⟩ := h5
      refine ⟨?_, ?_, ?_, ?_, ?_, ?_⟩ <;> first | assumption | simp | (simp; omega)⟩⟩⟩
  clear inv
  rintro l ⟨ds, n, ac, ev, bo, co, ef, he, se, rfl, inv⟩
  refine cut0 (fun l => ∃ ds n ac ev bo co ef he se, l = (ds, (n0, ac0, ev0, bo0, co0, ef0, he0, se0, u), states, kind, n, ac, ev, bo, co, ef, he, se, ()) ∧ ((kind < 4 ∧ RuleBad states vars chans (n, ac, ev, bo, co, ef, he, se, ())) ∨ (4 ≤ kind ∧ RuleSmall (n, ac, ev, bo, co, ef, he, se, ())))) ?_ ?_
  · walk_at "wp"
    by_cases hk : kind = 3
    case neg =>
      rw [if_neg hk]
      exact ⟨_, _, _, _, _, _, _, _, _, rfl, inv.elim (fun h => .inl ⟨by omega, h.2⟩) (fun h => .inr ⟨by omega, h.2⟩)⟩
    rw [if_pos hk]
    have sm : RuleSmall (n, ac, ev, bo, co, ef, he, se, ()) := inv.elim (fun h => absurd h.1 (by omega)) (·.2)
    refine is_mIxD [] (Int.le_refl _) (by omega) ?_
    refine is_mIxD [] (by decide) (by omega) ?_
    refine is_mIxD [] (Int.le_refl _) (by omega) ?_
    refine is_mIxD [] (Int.le_refl _) (by omega) ?_
    walk_at "wp"
    exact ⟨_, _, _, _, _, _, _, _, _, rfl, .inl ⟨by omega, ⟨fun _ => rb3 mb2, sm.n, by
      have h5 := sm.s
      simp only [List.mem_cons, List.not_mem_nil, or_false, forall_eq_or_imp, forall_eq] at h5 ⊢
      obtain ⟨a1, a2, a3, a4, a5, a6⟩ := h5
      refine ⟨?_, ?_, ?_, ?_, ?_, ?_⟩ <;> first | assumption | simp | (simp; omega)⟩⟩⟩
  clear inv
  rintro l ⟨ds, n, ac, ev, bo, co, ef, he, se, rfl, inv⟩
  refine cut0 (fun l => ∃ ds n ac ev bo co ef he se, l = (ds, (n0, ac0, ev0, bo0, co0, ef0, he0, se0, u), states, kind, n, ac, ev, bo, co, ef, he, se, ()) ∧ ((kind < 5 ∧ RuleBad states vars chans (n, ac, ev, bo, co, ef, he, se, ())) ∨ (5 ≤ kind ∧ RuleSmall (n, ac, ev, bo, co, ef, he, se, ())))) ?_ ?_
  · walk_at "wp"
    by_cases hk : kind = 4
    case neg =>
      rw [if_neg hk]
      exact ⟨_, _, _, _, _, _, _, _, _, rfl, inv.elim (fun h => .inl ⟨by omega, h.2⟩) (fun h => .inr ⟨by omega, h.2⟩)⟩
    rw [if_pos hk]
    have sm : RuleSmall (n, ac, ev, bo, co, ef, he, se, ()) := inv.elim (fun h => absurd h.1 (by omega)) (·.2)
    exact ⟨_, _, _, _, _, _, _, _, _, rfl, .inl ⟨by omega, ⟨fun _ => rb2 (by rw [List.all_cons, mb3]; rfl), sm.n, by
      have h5 := sm.s
      simp only [List.mem_cons, List.not_mem_nil, or_false, forall_eq_or_imp, forall_eq] at h5 ⊢
      obtain ⟨a1, a2, a3, a4, a5, a6⟩ := h5
      refine ⟨?_, ?_, ?_, ?_, ?_, ?_⟩ <;> first | assumption | simp | (simp; omega)⟩⟩⟩
  clear inv
  rintro l ⟨ds, n, ac, ev, bo, co, ef, he, se, rfl, inv⟩
  refine cut0 (fun l => ∃ ds n ac ev bo co ef he se, l = (ds, (n0, ac0, ev0, bo0, co0, ef0, he0, se0, u), states, kind, n, ac, ev, bo, co, ef, he, se, ()) ∧ ((kind < 6 ∧ RuleBad states vars chans (n, ac, ev, bo, co, ef, he, se, ())) ∨ (6 ≤ kind ∧ RuleSmall (n, ac, ev, bo, co, ef, he, se, ())))) ?_ ?_
  · walk_at "wp"
    by_cases hk : kind = 5
    case neg =>
      rw [if_neg hk]
      exact ⟨_, _, _, _, _, _, _, _, _, rfl, inv.elim (fun h => .inl ⟨by omega, h.2⟩) (fun h => .inr ⟨by omega, h.2⟩)⟩
    rw [if_pos hk]
    have sm : RuleSmall (n, ac, ev, bo, co, ef, he, se, ()) := inv.elim (fun h => absurd h.1 (by omega)) (·.2)
    refine is_mIxD [] (Int.le_refl _) (by omega) ?_
    refine is_mRep (by omega) (by simp) ?_
    walk_at "wp"
    refine take_is (by omega) fun i ds' i0 i1 => ?_
    walk_at "wp"
    refine is_mIxD [] i0 (by simpa using i1) ?_
    have hq := pick_mem (xs := ([(List.replicate (4 : Int).toNat [states.getD (0 : Int).toNat []]).flatten, [goneW], [nowhereW]] : List (List Tx))) (d := []) i0 (by simpa using i1)
    generalize List.getD _ i.toNat [] = b at hq
    have hb : (decide (b.length ≤ 3) && bornB states b) = false := by
      simp only [List.mem_cons, List.not_mem_nil, or_false] at hq
      rcases hq with e | e | e
      · subst e; exact mb4 _ (by left)
      · subst e; exact mb4 _ (by right; left)
      · subst e; exact mb4 _ (by right; right; left)
    walk_at "wp"
    exact ⟨_, _, _, _, _, _, _, _, _, rfl, .inl ⟨by omega, ⟨fun _ => rb4 hb, sm.n, by
      have h5 := sm.s
      simp only [List.mem_cons, List.not_mem_nil, or_false, forall_eq_or_imp, forall_eq] at h5 ⊢
      obtain ⟨a1, a2, a3, a4, a5, a6⟩ := h5
      refine ⟨?_, ?_, ?_, ?_, ?_, ?_⟩ <;> first | assumption | simp | (simp; omega)⟩⟩⟩
  clear inv
  rintro l ⟨ds, n, ac, ev, bo, co, ef, he, se, rfl, inv⟩
  refine cut0 (fun l => ∃ ds n ac ev bo co ef he se, l = (ds, (n0, ac0, ev0, bo0, co0, ef0, he0, se0, u), states, kind, n, ac, ev, bo, co, ef, he, se, ()) ∧ ((kind < 7 ∧ RuleBad states vars chans (n, ac, ev, bo, co, ef, he, se, ())) ∨ (7 ≤ kind ∧ RuleSmall (n, ac, ev, bo, co, ef, he, se, ())))) ?_ ?_
  · walk_at "wp"
    by_cases hk : kind = 6
    case neg =>
      rw [if_neg hk]
      exact ⟨_, _, _, _, _, _, _, _, _, rfl, inv.elim (fun h => .inl ⟨by omega, h.2⟩) (fun h => .inr ⟨by omega, h.2⟩)⟩
    rw [if_pos hk]
    have sm : RuleSmall (n, ac, ev, bo, co, ef, he, se, ()) := inv.elim (fun h => absurd h.1 (by omega)) (·.2)
    exact ⟨_, _, _, _, _, _, _, _, _, rfl, .inl ⟨by omega, ⟨fun _ => rb5 vb1, sm.n, by
      have h5 := sm.s
      simp only [List.mem_cons, List.not_mem_nil, or_false, forall_eq_or_imp, forall_eq] at h5 ⊢
      obtain ⟨a1, a2, a3, a4, a5, a6⟩ := h5
      refine ⟨?_, ?_, ?_, ?_, ?_, ?_⟩ <;> first | assumption | simp | (simp; omega)⟩⟩⟩
  clear inv
  rintro l ⟨ds, n, ac, ev, bo, co, ef, he, se, rfl, inv⟩
  refine cut0 (fun l => ∃ ds n ac ev bo co ef he se, l = (ds, (n0, ac0, ev0, bo0, co0, ef0, he0, se0, u), states, kind, n, ac, ev, bo, co, ef, he, se, ()) ∧ ((kind < 8 ∧ RuleBad states vars chans (n, ac, ev, bo, co, ef, he, se, ())) ∨ (8 ≤ kind ∧ RuleSmall (n, ac, ev, bo, co, ef, he, se, ())))) ?_ ?_
  · walk_at "wp"
    by_cases hk : kind = 7
    case neg =>
      rw [if_neg hk]
      exact ⟨_, _, _, _, _, _, _, _, _, rfl, inv.elim (fun h => .inl ⟨by omega, h.2⟩) (fun h => .inr ⟨by omega, h.2⟩)⟩
    rw [if_pos hk]
    have sm : RuleSmall (n, ac, ev, bo, co, ef, he, se, ()) := inv.elim (fun h => absurd h.1 (by omega)) (·.2)
    exact ⟨_, _, _, _, _, _, _, _, _, rfl, .inl ⟨by omega, ⟨fun _ => rb6 vb2, sm.n, by
      have h5 := sm.s
      simp only [List.mem_cons, List.not_mem_nil, or_false, forall_eq_or_imp, forall_eq] at h5 ⊢
      obtain ⟨a1, a2, a3, a4, a5, a6⟩ := h5
      refine ⟨?_, ?_, ?_, ?_, ?_, ?_⟩ <;> first | assumption | simp | (simp; omega)⟩⟩⟩
  clear inv
  rintro l ⟨ds, n, ac, ev, bo, co, ef, he, se, rfl, inv⟩
  refine cut0 (fun l => ∃ ds n ac ev bo co ef he se, l = (ds, (n0, ac0, ev0, bo0, co0, ef0, he0, se0, u), states, kind, n, ac, ev, bo, co, ef, he, se, ()) ∧ ((kind < 9 ∧ RuleBad states vars chans (n, ac, ev, bo, co, ef, he, se, ())) ∨ (9 ≤ kind ∧ RuleSmall (n, ac, ev, bo, co, ef, he, se, ())))) ?_ ?_
  · walk_at "wp"
    by_cases hk : kind = 8
    case neg =>
      rw [if_neg hk]
      exact ⟨_, _, _, _, _, _, _, _, _, rfl, inv.elim (fun h => .inl ⟨by omega, h.2⟩) (fun h => .inr ⟨by omega, h.2⟩)⟩
    rw [if_pos hk]
    have sm : RuleSmall (n, ac, ev, bo, co, ef, he, se, ()) := inv.elim (fun h => absurd h.1 (by omega)) (·.2)
    exact ⟨_, _, _, _, _, _, _, _, _, rfl, .inl ⟨by omega, ⟨fun _ => rb5 vb3, sm.n, by
      have h5 := sm.s
      simp only [List.mem_cons, List.not_mem_nil, or_false, forall_eq_or_imp, forall_eq] at h5 ⊢
      obtain ⟨a1, a2, a3, a4, a5, a6⟩ := h5
      refine ⟨?_, ?_, ?_, ?_, ?_, ?_⟩ <;> first | assumption | simp | (simp; omega)⟩⟩⟩
  clear inv
  rintro l ⟨ds, n, ac, ev, bo, co, ef, he, se, rfl, inv⟩
  refine cut0 (fun l => ∃ ds n ac ev bo co ef he se, l = (ds, (n0, ac0, ev0, bo0, co0, ef0, he0, se0, u), states, kind, n, ac, ev, bo, co, ef, he, se, ()) ∧ ((kind < 10 ∧ RuleBad states vars chans (n, ac, ev, bo, co, ef, he, se, ())) ∨ (10 ≤ kind ∧ RuleSmall (n, ac, ev, bo, co, ef, he, se, ())))) ?_ ?_
  · walk_at "wp"
    by_cases hk : kind = 9
    case neg =>
      rw [if_neg hk]
      exact ⟨_, _, _, _, _, _, _, _, _, rfl, inv.elim (fun h => .inl ⟨by omega, h.2⟩) (fun h => .inr ⟨by omega, h.2⟩)⟩
    rw [if_pos hk]
    have sm : RuleSmall (n, ac, ev, bo, co, ef, he, se, ()) := inv.elim (fun h => absurd h.1 (by omega)) (·.2)
    exact ⟨_, _, _, _, _, _, _, _, _, rfl, .inl ⟨by omega, ⟨fun _ => rb7 cb1, sm.n, by
      have h5 := sm.s
      simp only [List.mem_cons, List.not_mem_nil, or_false, forall_eq_or_imp, forall_eq] at h5 ⊢
      obtain ⟨a1, a2, a3, a4, a5, a6⟩ := h5
      refine ⟨?_, ?_, ?_, ?_, ?_, ?_⟩ <;> first | assumption | simp | (simp; omega)⟩⟩⟩
  clear inv
  rintro l ⟨ds, n, ac, ev, bo, co, ef, he, se, rfl, inv⟩
  refine cut0 (fun l => ∃ ds n ac ev bo co ef he se, l = (ds, (n0, ac0, ev0, bo0, co0, ef0, he0, se0, u), states, kind, n, ac, ev, bo, co, ef, he, se, ()) ∧ ((kind < 11 ∧ RuleBad states vars chans (n, ac, ev, bo, co, ef, he, se, ())) ∨ (11 ≤ kind ∧ RuleSmall (n, ac, ev, bo, co, ef, he, se, ())))) ?_ ?_
  · walk_at "wp"
    by_cases hk : kind = 10
    case neg =>
      rw [if_neg hk]
      exact ⟨_, _, _, _, _, _, _, _, _, rfl, inv.elim (fun h => .inl ⟨by omega, h.2⟩) (fun h => .inr ⟨by omega, h.2⟩)⟩
    rw [if_pos hk]
    have sm : RuleSmall (n, ac, ev, bo, co, ef, he, se, ()) := inv.elim (fun h => absurd h.1 (by omega)) (·.2)
    exact ⟨_, _, _, _, _, _, _, _, _, rfl, .inl ⟨by omega, ⟨fun _ => rb8 cb2, sm.n, by
      have h5 := sm.s
      simp only [List.mem_cons, List.not_mem_nil, or_false, forall_eq_or_imp, forall_eq] at h5 ⊢
      obtain ⟨a1, a2, a3, a4, a5, a6⟩ := h5
      refine ⟨?_, ?_, ?_, ?_, ?_, ?_⟩ <;> first | assumption | simp | (simp; omega)⟩⟩⟩
  clear inv
  rintro l ⟨ds, n, ac, ev, bo, co, ef, he, se, rfl, inv⟩
  refine cut0 (fun l => ∃ ds n ac ev bo co ef he se, l = (ds, (n0, ac0, ev0, bo0, co0, ef0, he0, se0, u), states, kind, n, ac, ev, bo, co, ef, he, se, ()) ∧ ((kind < 12 ∧ RuleBad states vars chans (n, ac, ev, bo, co, ef, he, se, ())) ∨ (12 ≤ kind ∧ RuleSmall (n, ac, ev, bo, co, ef, he, se, ())))) ?_ ?_
  · walk_at "wp"
    by_cases hk : kind = 11
    case neg =>
      rw [if_neg hk]
      exact ⟨_, _, _, _, _, _, _, _, _, rfl, inv.elim (fun h => .inl ⟨by omega, h.2⟩) (fun h => .inr ⟨by omega, h.2⟩)⟩
    rw [if_pos hk]
    have sm : RuleSmall (n, ac, ev, bo, co, ef, he, se, ()) := inv.elim (fun h => absurd h.1 (by omega)) (·.2)
    exact ⟨_, _, _, _, _, _, _, _, _, rfl, .inl ⟨by omega, ⟨fun _ => rb8 cb3, sm.n, by
      have h5 := sm.s
      simp only [List.mem_cons, List.not_mem_nil, or_false, forall_eq_or_imp, forall_eq] at h5 ⊢
      obtain ⟨a1, a2, a3, a4, a5, a6⟩ := h5
      refine ⟨?_, ?_, ?_, ?_, ?_, ?_⟩ <;> first | assumption | simp | (simp; omega)⟩⟩⟩
  clear inv
  rintro l ⟨ds, n, ac, ev, bo, co, ef, he, se, rfl, inv⟩
  walk_at "wp"
  have hb : RuleBad states vars chans (n, ac, ev, bo, co, ef, he, se, ()) := inv.elim (·.2) (fun h => absurd h.1 (by omega))
  exact k _ _ hb

end W
namespace W
open PySem PySem.Spec PyProof.Rows L2 TC
local macro_rules | `(tactic| walk_at "wp") => `(tactic| ((try simp only [w_V, w_C, w_F, w_U, w_B, w_Cmp, w_And, w_Or, w_Ite, w_Chain, w_IxO, w_LenO, w_Nil, w_Cons, w_U0, w_Pair, w_CallL, w_Make, w_Lc, w_LcIf, w_Pop, w_DGet, w_DGetN, w_DIn, w_DNin, w_InO, w_NinO, w_D1, w_Range1, w_Range2, w_Set, w_Expr, w_App, w_Rev, w_Store, w_AddI, w_DPut, w_If, w_For, w_While, w_Nx, w_SeqL, w_Ret, w_RetL, w_FldNew, w_Bk, w_Ct, w_Run, gZ_eq, gS_eq, pZ_eq, pS_eq, pP_eq, pN_eq, pC_eq, c3_eq, c2_eq, iS_eq, iZ_eq, Res.is_ok, is_mAdd, is_mSub, w_AppIx, mEq_eq, mNe_eq, mLt_eq, mLe_eq, mGt_eq, mGe_eq, mIn_eq, mNin_eq, w_Er, w_ErN, w_Try, w_Cut, w_AugIx, w_mSome, w_mInl, w_mInr, mAlt_l, mAlt_r, w_noErRt, Bool.not_true, Bool.not_false, if_true, Bool.false_eq_true, if_false, decide_eq_true_eq, Bool.not_eq_true', decide_eq_false_iff_not, reduceCtorEq, decide_true, decide_false, Option.isSome_none, Option.isSome_some, Option.isNone_none, Option.isNone_some, w_Mv, mInS_eq, mNinS_eq]); (repeat (rw [rest_eq]; (try simp only [w_V, w_C, w_F, w_U, w_B, w_Cmp, w_And, w_Or, w_Ite, w_Chain, w_IxO, w_LenO, w_Nil, w_Cons, w_U0, w_Pair, w_CallL, w_Make, w_Lc, w_LcIf, w_Pop, w_DGet, w_DGetN, w_DIn, w_DNin, w_InO, w_NinO, w_D1, w_Range1, w_Range2, w_Set, w_Expr, w_App, w_Rev, w_Store, w_AddI, w_DPut, w_If, w_For, w_While, w_Nx, w_SeqL, w_Ret, w_RetL, w_FldNew, w_Bk, w_Ct, w_Run, gZ_eq, gS_eq, pZ_eq, pS_eq, pP_eq, pN_eq, pC_eq, c3_eq, c2_eq, iS_eq, iZ_eq, Res.is_ok, is_mAdd, is_mSub, w_AppIx, mEq_eq, mNe_eq, mLt_eq, mLe_eq, mGt_eq, mGe_eq, mIn_eq, mNin_eq, w_Er, w_ErN, w_Try, w_Cut, w_AugIx, w_mSome, w_mInl, w_mInr, mAlt_l, mAlt_r, w_noErRt, Bool.not_true, Bool.not_false, if_true, Bool.false_eq_true, if_false, decide_eq_true_eq, Bool.not_eq_true', decide_eq_false_iff_not, reduceCtorEq, decide_true, decide_false, Option.isSome_none, Option.isSome_some, Option.isNone_none, Option.isNone_some, w_Mv, mInS_eq, mNinS_eq])))))
theorem cut_drop {α : Type} {xs : List α} {k : Int} (h0 : 0 ≤ k) : mCut xs (some k) none = xs.drop k.toNat := by
  unfold mCut
  have e1 : HT.sIx xs.length xs.length none = xs.length := rfl
  have e2 : HT.sIx xs.length 0 (some k) = min k.toNat xs.length := by
    show (if k < 0 then (k + (xs.length : Int)).toNat else min k.toNat xs.length) = min k.toNat xs.length
    rw [if_neg (by omega)]
  rw [e1, e2]
  rcases Nat.le_total k.toNat xs.length with h | h
  · rw [Nat.min_eq_left h, List.take_of_length_le (by rw [List.length_drop]; exact Nat.le_refl _)]
  · rw [Nat.min_eq_right h, List.drop_length, List.drop_of_length_le h, List.take_nil]
abbrev allW : Tx := [97, 108, 108]
abbrev sevenW : List Tx := [[97, 49], [98, 49], [99, 49], [100, 49], [101, 49], [102, 49], [103, 49]]
abbrev aW : Tx := [97]
abbrev bW : Tx := [98]
abbrev cW : Tx := [99]
abbrev dW : Tx := [100]
abbrev setW : Tx := [115, 101, 116]
abbrev sendW : Tx := [115, 101, 110, 100]
abbrev oddS (s : List Tx) : List (List Tx) := [s ++ s.take 1, [], s ++ [allW], sevenW]
abbrev oddV (s : List Tx) : Vrs := [(lockW, [freeW]), (lockW, [aW, bW, cW, dW]), (lockW, [aW, aW]), (setW, [aW, bW]), (s.getD 0 [], [aW, bW])]
abbrev oddC (s : List Tx) : Vrs := [(boxW, []), (boxW, [aW, bW, cW, dW]), (boxW, [aW, aW]), (s.getD 0 [], [aW]), (sendW, [aW])]
abbrev oddP (s : List Tx) : List Ptn := [([], []), ([(s.getD 0 [], 0)], []), ([(s.getD 0 [], 10)], []), ([(nowhereW, 1)], []), ([], [(lockW, lostW)]), ([(s.getD 0 [], 1), (s.getD 0 [], 2)], []), ([(s.getD 0 [], 1)], [(lockW, freeW), (lockW, freeW)])]
theorem oddS_bad : ∀ s ∈ allStates, ∀ t ∈ oddS s, (decide (1 ≤ t.length ∧ t.length ≤ 6) && namesB t) = false ∧ ∀ w ∈ t, w.length ≤ 1000 := by decide +kernel
theorem oddA_bad : ∀ s ∈ allStates, ∀ x ∈ [nowhereW, [], goneW], statesB s x = false := by decide +kernel
theorem oddV_bad : ∀ s ∈ allStates, (∀ p ∈ oddV s, varB 2 3 s [] 0 p.1 p.2 = false ∧ p.1.length ≤ 1000 ∧ ∀ w ∈ p.2, w.length ≤ 1000) ∧ varB 2 3 s [lockW] 1 lockW [freeW, heldW] = false := by decide +kernel
theorem oddC_bad : ∀ s ∈ allStates, ∀ v ∈ allVars, ∀ p ∈ oddC s, varB 1 3 s (v.map (·.1)) 0 p.1 p.2 = false ∧ p.1.length ≤ 1000 ∧ ∀ w ∈ p.2, w.length ≤ 1000 := by decide +kernel
theorem oddP_bad : ∀ s ∈ allStates, ∀ v ∈ allVars, ∀ p ∈ oddP s, (decide (¬ (p.1.length + p.2.length = 0)) && (p.1.all (countB s) && (diffB (p.1.map (·.1)) && valuesB v p.2))) = false ∧ p.1.length ≤ 100 ∧ p.2.length ≤ 100 := by decide +kernel
theorem patt_bad {s : List Tx} {v : Vrs} {n : Nat} {p : Ptn} (h : (decide (¬ (p.1.length + p.2.length = 0)) && (p.1.all (countB s) && (diffB (p.1.map (·.1)) && valuesB v p.2))) = false) : pattB s v n p = false := by
  unfold pattB
  rcases Bool.and_eq_false_iff.mp h with h | h
  · have h := of_decide_eq_false h
    rw [show decide (¬ (4 ≤ n ∨ p.1.length + p.2.length = 0)) = false from decide_eq_false fun z => h fun e => z (.inr e), Bool.false_and]
  · rw [h, Bool.and_false]
theorem spoilt_pattern_is {ds : List Int} {s : List Tx} {E : Ex → Prop} {Q : Ptn × List Int → Prop} (hs : s ∈ allStates) (k : ∀ p ds', p ∈ oddP s → Q (p, ds')) : (m__law_spoilt_pattern (ds, s, ())).Is E Q := by
  have hst2 := List.length_pos_iff.mpr (states_ne _ hs).1
  unfold m__law_spoilt_pattern
  walk_at "wp"
  refine is_mIxD [] (Int.le_refl _) (by omega) ?_
  refine is_mIxD [] (Int.le_refl _) (by omega) ?_
  walk_at "wp"
  refine is_mIxD [] (Int.le_refl _) (by omega) ?_
  refine is_mIxD [] (Int.le_refl _) (by omega) ?_
  refine is_mIxD [] (Int.le_refl _) (by omega) ?_
  refine is_mCat (by simp) ?_
  walk_at "wp"
  refine take_is (by omega) fun i ds' i0 i1 => ?_
  walk_at "wp"
  refine is_mIxD ([], []) i0 (by simpa using i1) ?_
  exact k _ _ (pick_mem (xs := oddP s) i0 (by simpa using i1))
section
variable {st : List Tx} {sa : Tx} {va ch : Vrs} {rl : List RulH} {bd : List Ptn}
theorem all_false {xs : List Int} {t : Int → Bool} {x : Int} (hx : x ∈ xs) (h : t x = false) : xs.all t = false := List.all_eq_false.mpr ⟨x, hx, by rw [h]; decide⟩
theorem at_mem {α : Type} {xs : List α} {i : Nat} {p : α} (h : xs[i]? = some p) : (i : Int) ∈ irange 0 (xs.length : Int) := irange_mem.mpr (by have := (List.getElem?_eq_some_iff.mp h).1; omega)
theorem sf1 (h : (decide (1 ≤ st.length ∧ st.length ≤ 6) && namesB st) = false) : sysB st sa va ch rl bd = false := by
  have : statesB st sa = false := by unfold statesB; rw [← Bool.and_assoc, h]; rfl
  unfold sysB; rw [this]; simp
theorem sf1' (h : statesB st sa = false) : sysB st sa va ch rl bd = false := by unfold sysB; rw [h]; simp
theorem sf2 {i : Nat} {p : Tx × List Tx} (hp : va[i]? = some p) (h : varB 2 3 st ((va.take i).map (·.1)) i p.1 p.2 = false) : sysB st sa va ch rl bd = false := by
  have : (irange 0 (va.length : Int)).all (tV st va) = false := all_false (at_mem hp) (by rw [tV, Int.toNat_natCast, getD_at hp]; exact h)
  unfold sysB; rw [this]; simp
theorem sf3 {i : Nat} {p : Tx × List Tx} (hp : ch[i]? = some p) (h : varB 1 3 st ((va ++ ch.take i).map (·.1)) i p.1 p.2 = false) : sysB st sa va ch rl bd = false := by
  have : (irange 0 (ch.length : Int)).all (tC st va ch) = false := all_false (at_mem hp) (by rw [tC, Int.toNat_natCast, getD_at hp]; exact h)
  unfold sysB; rw [this]; simp
theorem sf4 {i : Nat} {r : RulH} (hp : rl[i]? = some r) (h : ruleB st va ch ((rl.take i).map (·.1)) r = false) : sysB st sa va ch rl bd = false := by
  have : (irange 0 (rl.length : Int)).all (tR st va ch rl) = false := all_false (at_mem hp) (by rw [tR, Int.toNat_natCast, getD_at hp]; exact h)
  unfold sysB; rw [this]; simp
theorem sf5 {i : Nat} {p : Ptn} (hp : bd[i]? = some p) (h : pattB st va i p = false) : sysB st sa va ch rl bd = false := by
  have : (irange 0 (bd.length : Int)).all (tB st va bd) = false := all_false (at_mem hp) (by rw [tB, Int.toNat_natCast, getD_at hp]; exact h)
  unfold sysB; rw [this]; simp
theorem rule_named {earlier : List Tx} {r : RulH} (h : r.1 ∈ earlier ∨ 8 ≤ earlier.length) : ruleB st va ch earlier r = false := by
  have : nameOk 8 earlier r.1 = false := decide_eq_false fun z => h.elim (fun h => z (.inr (.inr h))) fun h => z (.inl h)
  unfold ruleB; rw [this]; simp
end

end W
namespace W
open PySem PySem.Spec PyProof.Rows L2 TC
local macro_rules | `(tactic| walk_at "wp") => `(tactic| ((try simp only [w_V, w_C, w_F, w_U, w_B, w_Cmp, w_And, w_Or, w_Ite, w_Chain, w_IxO, w_LenO, w_Nil, w_Cons, w_U0, w_Pair, w_CallL, w_Make, w_Lc, w_LcIf, w_Pop, w_DGet, w_DGetN, w_DIn, w_DNin, w_InO, w_NinO, w_D1, w_Range1, w_Range2, w_Set, w_Expr, w_App, w_Rev, w_Store, w_AddI, w_DPut, w_If, w_For, w_While, w_Nx, w_SeqL, w_Ret, w_RetL, w_FldNew, w_Bk, w_Ct, w_Run, gZ_eq, gS_eq, pZ_eq, pS_eq, pP_eq, pN_eq, pC_eq, c3_eq, c2_eq, iS_eq, iZ_eq, Res.is_ok, is_mAdd, is_mSub, w_AppIx, mEq_eq, mNe_eq, mLt_eq, mLe_eq, mGt_eq, mGe_eq, mIn_eq, mNin_eq, w_Er, w_ErN, w_Try, w_Cut, w_AugIx, w_mSome, w_mInl, w_mInr, mAlt_l, mAlt_r, w_noErRt, Bool.not_true, Bool.not_false, if_true, Bool.false_eq_true, if_false, decide_eq_true_eq, Bool.not_eq_true', decide_eq_false_iff_not, reduceCtorEq, decide_true, decide_false, Option.isSome_none, Option.isSome_some, Option.isNone_none, Option.isNone_some, w_Mv, mInS_eq, mNinS_eq]); (repeat (rw [rest_eq]; (try simp only [w_V, w_C, w_F, w_U, w_B, w_Cmp, w_And, w_Or, w_Ite, w_Chain, w_IxO, w_LenO, w_Nil, w_Cons, w_U0, w_Pair, w_CallL, w_Make, w_Lc, w_LcIf, w_Pop, w_DGet, w_DGetN, w_DIn, w_DNin, w_InO, w_NinO, w_D1, w_Range1, w_Range2, w_Set, w_Expr, w_App, w_Rev, w_Store, w_AddI, w_DPut, w_If, w_For, w_While, w_Nx, w_SeqL, w_Ret, w_RetL, w_FldNew, w_Bk, w_Ct, w_Run, gZ_eq, gS_eq, pZ_eq, pS_eq, pP_eq, pN_eq, pC_eq, c3_eq, c2_eq, iS_eq, iZ_eq, Res.is_ok, is_mAdd, is_mSub, w_AppIx, mEq_eq, mNe_eq, mLt_eq, mLe_eq, mGt_eq, mGe_eq, mIn_eq, mNin_eq, w_Er, w_ErN, w_Try, w_Cut, w_AugIx, w_mSome, w_mInl, w_mInr, mAlt_l, mAlt_r, w_noErRt, Bool.not_true, Bool.not_false, if_true, Bool.false_eq_true, if_false, decide_eq_true_eq, Bool.not_eq_true', decide_eq_false_iff_not, reduceCtorEq, decide_true, decide_false, Option.isSome_none, Option.isSome_some, Option.isNone_none, Option.isNone_some, w_Mv, mInS_eq, mNinS_eq])))))
structure Spoilt (st : List Tx) (sa : Tx) (va ch : Vrs) (rl : List RulH) (bd : List Ptn) : Prop where
  b : sysB st sa va ch rl bd = false
  z : SysSmall st va ch rl bd
theorem spoilt_is {ds : List Int} {P : Parts} {E : Ex → Prop} {Q : Parts × List Int → Prop} (hP : PartsOk 3 P) (k : ∀ P' ds', Spoilt P'.1 P'.2.1 P'.2.2.1 P'.2.2.2.1 P'.2.2.2.2.1 P'.2.2.2.2.2.1 → Q (P', ds')) : (m__law_spoilt (ds, P, ())).Is E Q := by
  have hz := hP.small (by omega)
  obtain ⟨st0, sa0, va0, ch0, rl0, bd0, u⟩ := P
  obtain ⟨hst, hsa, hva, hch, hrl, hru, hbl, hbo⟩ := hP
  dsimp only at hst hsa hva hch hrl hru hbl hbo hz
  have hp0 := List.length_pos_iff.mpr (states_ne _ hst).1
  have hl4 : st0.length ≤ 4 := by
    have : ∀ s ∈ allStates, s.length ≤ 4 := by decide
    exact this _ hst
  obtain ⟨z1, z2, z3, z4, z5⟩ := hz
  unfold m__law_spoilt
  rw [w_Run]
  refine cut1 (fun l => ∃ ds kind, l = (ds, (st0, sa0, va0, ch0, rl0, bd0, u), kind, st0, sa0, va0, ch0, rl0, bd0, [], 0, 0, ()) ∧ 0 ≤ kind ∧ kind < 12) ?_ ?_
  · walk_at "wp"
    refine take_is (by omega) fun i ds' i0 i1 => ?_
    walk_at "wp"
    exact ⟨_, _, rfl, i0, i1⟩
  rintro l ⟨ds, kind, rfl, k0, k1⟩
  have first : ∃ st sa va ch rl bd od a b, (ds, (st0, sa0, va0, ch0, rl0, bd0, u), kind, st0, sa0, va0, ch0, rl0, bd0, ([] : Vrs), (0 : Int), (0 : Int), ()) = (ds, (st0, sa0, va0, ch0, rl0, bd0, u), kind, st, sa, va, ch, rl, bd, od, a, b, ()) ∧ ((kind < 0 ∧ Spoilt st sa va ch rl bd) ∨ (0 ≤ kind ∧ st = st0 ∧ sa = sa0 ∧ va = va0 ∧ ch = ch0 ∧ rl = rl0 ∧ bd = bd0)) := ⟨_, _, _, _, _, _, _, _, _, rfl, .inr ⟨k0, rfl, rfl, rfl, rfl, rfl, rfl⟩⟩
  obtain ⟨st, sa, va, ch, rl, bd, od, a, b, e, inv⟩ := first
  rw [e]
  clear e
  refine cut0 (fun l => ∃ ds st sa va ch rl bd od a b, l = (ds, (st0, sa0, va0, ch0, rl0, bd0, u), kind, st, sa, va, ch, rl, bd, od, a, b, ()) ∧ ((kind < 1 ∧ Spoilt st sa va ch rl bd) ∨ (1 ≤ kind ∧ st = st0 ∧ sa = sa0 ∧ va = va0 ∧ ch = ch0 ∧ rl = rl0 ∧ bd = bd0))) ?_ ?_
  · walk_at "wp"
    by_cases hk : kind = 0
    case neg =>
      rw [if_neg hk]
      exact ⟨_, _, _, _, _, _, _, _, _, _, rfl, inv.elim (fun h => .inl ⟨by omega, h.2⟩) (fun h => .inr ⟨by omega, h.2⟩)⟩
    rw [if_pos hk]
    obtain ⟨_, e1, e2, e3, e4, e5, e6⟩ := inv.elim (fun h => absurd h.1 (by omega)) id
    subst e1 e2 e3 e4 e5 e6
    clear inv
    rw [cut_take (by decide)]
    refine is_mCat (by rw [List.length_take]; omega) ?_
    walk_at "wp"
    refine is_mCat (by simp; omega) ?_
    walk_at "wp"
    refine take_is (by omega) fun i ds' i0 i1 => ?_
    walk_at "wp"
    refine is_mIxD [] i0 (by simpa using i1) ?_
    have hq := pick_mem (xs := oddS st) (d := []) i0 (by simpa using i1)
    obtain ⟨h1, h2⟩ := oddS_bad _ hst _ hq
    walk_at "wp"
    exact ⟨_, _, _, _, _, _, _, _, _, _, rfl, .inl ⟨by omega, ⟨sf1 h1, ⟨h2, z2, z3, z4, z5⟩⟩⟩⟩
  clear inv
  rintro l ⟨ds, st, sa, va, ch, rl, bd, od, a, b, rfl, inv⟩
  refine cut0 (fun l => ∃ ds st sa va ch rl bd od a b, l = (ds, (st0, sa0, va0, ch0, rl0, bd0, u), kind, st, sa, va, ch, rl, bd, od, a, b, ()) ∧ ((kind < 2 ∧ Spoilt st sa va ch rl bd) ∨ (2 ≤ kind ∧ st = st0 ∧ sa = sa0 ∧ va = va0 ∧ ch = ch0 ∧ rl = rl0 ∧ bd = bd0))) ?_ ?_
  · walk_at "wp"
    by_cases hk : kind = 1
    case neg =>
      rw [if_neg hk]
      exact ⟨_, _, _, _, _, _, _, _, _, _, rfl, inv.elim (fun h => .inl ⟨by omega, h.2⟩) (fun h => .inr ⟨by omega, h.2⟩)⟩
    rw [if_pos hk]
    obtain ⟨_, e1, e2, e3, e4, e5, e6⟩ := inv.elim (fun h => absurd h.1 (by omega)) id
    subst e1 e2 e3 e4 e5 e6
    clear inv
    refine take_is (by omega) fun i ds' i0 i1 => ?_
    walk_at "wp"
    refine is_mIxD [] i0 (by simpa using i1) ?_
    have hq := pick_mem (xs := [nowhereW, [], goneW]) (d := []) i0 (by simpa using i1)
    walk_at "wp"
    exact ⟨_, _, _, _, _, _, _, _, _, _, rfl, .inl ⟨by omega, ⟨sf1' (oddA_bad _ hst _ hq), ⟨z1, z2, z3, z4, z5⟩⟩⟩⟩
  clear inv
  rintro l ⟨ds, st, sa, va, ch, rl, bd, od, a, b, rfl, inv⟩
  refine cut0 (fun l => ∃ ds st sa va ch rl bd od a b, l = (ds, (st0, sa0, va0, ch0, rl0, bd0, u), kind, st, sa, va, ch, rl, bd, od, a, b, ()) ∧ ((kind < 3 ∧ Spoilt st sa va ch rl bd) ∨ (3 ≤ kind ∧ st = st0 ∧ sa = sa0 ∧ va = va0 ∧ ch = ch0 ∧ rl = rl0 ∧ bd = bd0))) ?_ ?_
  · walk_at "wp"
    by_cases hk : kind = 2
    case neg =>
      rw [if_neg hk]
      exact ⟨_, _, _, _, _, _, _, _, _, _, rfl, inv.elim (fun h => .inl ⟨by omega, h.2⟩) (fun h => .inr ⟨by omega, h.2⟩)⟩
    rw [if_pos hk]
    obtain ⟨_, e1, e2, e3, e4, e5, e6⟩ := inv.elim (fun h => absurd h.1 (by omega)) id
    subst e1 e2 e3 e4 e5 e6
    clear inv
    refine is_mIxD [] (Int.le_refl _) (by omega) ?_
    walk_at "wp"
    refine take_is (by omega) fun i ds' i0 i1 => ?_
    walk_at "wp"
    refine is_mIxD ([], []) i0 (by simpa using i1) ?_
    have hq := pick_mem (xs := oddV st) (d := ([], [])) i0 (by simpa using i1)
    obtain ⟨h1, h2, h3⟩ := (oddV_bad _ hst).1 _ hq
    walk_at "wp"
    exact ⟨_, _, _, _, _, _, _, _, _, _, rfl, .inl ⟨by omega, ⟨sf2 (i := 0) rfl h1, ⟨z1, ⟨by simp, fun p hp => by rw [List.mem_singleton] at hp; subst hp; exact ⟨h2, h3⟩⟩, z3, z4, z5⟩⟩⟩⟩
  clear inv
  rintro l ⟨ds, st, sa, va, ch, rl, bd, od, a, b, rfl, inv⟩
  refine cut0 (fun l => ∃ ds st sa va ch rl bd od a b, l = (ds, (st0, sa0, va0, ch0, rl0, bd0, u), kind, st, sa, va, ch, rl, bd, od, a, b, ()) ∧ ((kind < 4 ∧ Spoilt st sa va ch rl bd) ∨ (4 ≤ kind ∧ st = st0 ∧ sa = sa0 ∧ va = va0 ∧ ch = ch0 ∧ rl = rl0 ∧ bd = bd0))) ?_ ?_
  · walk_at "wp"
    by_cases hk : kind = 3
    case neg =>
      rw [if_neg hk]
      exact ⟨_, _, _, _, _, _, _, _, _, _, rfl, inv.elim (fun h => .inl ⟨by omega, h.2⟩) (fun h => .inr ⟨by omega, h.2⟩)⟩
    rw [if_pos hk]
    obtain ⟨_, e1, e2, e3, e4, e5, e6⟩ := inv.elim (fun h => absurd h.1 (by omega)) id
    subst e1 e2 e3 e4 e5 e6
    clear inv
    walk_at "wp"
    exact ⟨_, _, _, _, _, _, _, _, _, _, rfl, .inl ⟨by omega, ⟨sf2 (i := 1) rfl (oddV_bad _ hst).2, ⟨z1, ⟨by simp, by decide⟩, z3, z4, z5⟩⟩⟩⟩
  clear inv
  rintro l ⟨ds, st, sa, va, ch, rl, bd, od, a, b, rfl, inv⟩
  refine cut0 (fun l => ∃ ds st sa va ch rl bd od a b, l = (ds, (st0, sa0, va0, ch0, rl0, bd0, u), kind, st, sa, va, ch, rl, bd, od, a, b, ()) ∧ ((kind < 5 ∧ Spoilt st sa va ch rl bd) ∨ (5 ≤ kind ∧ st = st0 ∧ sa = sa0 ∧ va = va0 ∧ ch = ch0 ∧ rl = rl0 ∧ bd = bd0))) ?_ ?_
  · walk_at "wp"
    by_cases hk : kind = 4
    case neg =>
      rw [if_neg hk]
      exact ⟨_, _, _, _, _, _, _, _, _, _, rfl, inv.elim (fun h => .inl ⟨by omega, h.2⟩) (fun h => .inr ⟨by omega, h.2⟩)⟩
    rw [if_pos hk]
    obtain ⟨_, e1, e2, e3, e4, e5, e6⟩ := inv.elim (fun h => absurd h.1 (by omega)) id
    subst e1 e2 e3 e4 e5 e6
    clear inv
    refine is_mIxD [] (Int.le_refl _) (by omega) ?_
    walk_at "wp"
    refine take_is (by omega) fun i ds' i0 i1 => ?_
    walk_at "wp"
    refine is_mIxD ([], []) i0 (by simpa using i1) ?_
    have hq := pick_mem (xs := oddC st) (d := ([], [])) i0 (by simpa using i1)
    obtain ⟨h1, h2, h3⟩ := oddC_bad _ hst _ hva _ hq
    walk_at "wp"
    exact ⟨_, _, _, _, _, _, _, _, _, _, rfl, .inl ⟨by omega, ⟨sf3 (i := 0) rfl (by rw [List.take_zero, List.append_nil]; exact h1), ⟨z1, z2, ⟨by simp, fun p hp => by rw [List.mem_singleton] at hp; subst hp; exact ⟨h2, h3⟩⟩, z4, z5⟩⟩⟩⟩
  clear inv
  rintro l ⟨ds, st, sa, va, ch, rl, bd, od, a, b, rfl, inv⟩
  refine cut0 (fun l => ∃ ds st sa va ch rl bd od a b, l = (ds, (st0, sa0, va0, ch0, rl0, bd0, u), kind, st, sa, va, ch, rl, bd, od, a, b, ()) ∧ ((kind < 6 ∧ Spoilt st sa va ch rl bd) ∨ (6 ≤ kind ∧ st = st0 ∧ sa = sa0 ∧ va = va0 ∧ ch = ch0 ∧ rl = rl0 ∧ bd = bd0))) ?_ ?_
  · walk_at "wp"
    by_cases hk : kind = 5
    case neg =>
      rw [if_neg hk]
      exact ⟨_, _, _, _, _, _, _, _, _, _, rfl, inv.elim (fun h => .inl ⟨by omega, h.2⟩) (fun h => .inr ⟨by omega, h.2⟩)⟩
    rw [if_pos hk]
    obtain ⟨_, e1, e2, e3, e4, e5, e6⟩ := inv.elim (fun h => absurd h.1 (by omega)) id
    subst e1 e2 e3 e4 e5 e6
    clear inv
    walk_at "wp"
    exact ⟨_, _, _, _, _, _, _, _, _, _, rfl, .inl ⟨by omega, ⟨sf3 (i := 2) rfl (by unfold varB; rw [decide_eq_false fun z => z (.inl (Nat.le_refl 2))]; rfl), ⟨z1, z2, ⟨by simp, by decide⟩, z4, z5⟩⟩⟩⟩
  clear inv
  rintro l ⟨ds, st, sa, va, ch, rl, bd, od, a, b, rfl, inv⟩
  refine cut0 (fun l => ∃ ds st sa va ch rl bd od a b, l = (ds, (st0, sa0, va0, ch0, rl0, bd0, u), kind, st, sa, va, ch, rl, bd, od, a, b, ()) ∧ ((kind < 7 ∧ Spoilt st sa va ch rl bd) ∨ (7 ≤ kind ∧ st = st0 ∧ sa = sa0 ∧ va = va0 ∧ ch = ch0 ∧ rl = rl0 ∧ bd = bd0))) ?_ ?_
  · walk_at "wp"
    by_cases hk : kind = 6
    case neg =>
      rw [if_neg hk]
      exact ⟨_, _, _, _, _, _, _, _, _, _, rfl, inv.elim (fun h => .inl ⟨by omega, h.2⟩) (fun h => .inr ⟨by omega, h.2⟩)⟩
    rw [if_pos hk]
    obtain ⟨_, e1, e2, e3, e4, e5, e6⟩ := inv.elim (fun h => absurd h.1 (by omega)) id
    subst e1 e2 e3 e4 e5 e6
    clear inv
    obtain ⟨r, hr⟩ := get_at (xs := rl) (x := 0) (by omega)
    have hr : rl[0]? = some r := hr
    refine is_mIx r (Int.le_refl _) hr ?_
    walk_at "wp"
    refine is_mCat (by show _ + 1 ≤ _; omega) ?_
    walk_at "wp"
    have hrm : r ∈ rl := List.mem_of_getElem? hr
    exact ⟨_, _, _, _, _, _, _, _, _, _, rfl, .inl ⟨by omega, ⟨sf4 (i := rl.length) (r := r) (by rw [List.getElem?_append_right (Nat.le_refl _), Nat.sub_self]; rfl) (rule_named (.inl (by rw [List.take_left' rfl]; exact List.mem_map_of_mem hrm))), ⟨z1, z2, z3, ⟨by simp; omega, fun q hq => (List.mem_append.mp hq).elim (z4.2 q) fun h => by rw [List.mem_singleton.mp h]; exact z4.2 r hrm⟩, z5⟩⟩⟩⟩
  clear inv
  rintro l ⟨ds, st, sa, va, ch, rl, bd, od, a, b, rfl, inv⟩
  refine cut0 (fun l => ∃ ds st sa va ch rl bd od a b, l = (ds, (st0, sa0, va0, ch0, rl0, bd0, u), kind, st, sa, va, ch, rl, bd, od, a, b, ()) ∧ ((kind < 8 ∧ Spoilt st sa va ch rl bd) ∨ (8 ≤ kind ∧ st = st0 ∧ sa = sa0 ∧ va = va0 ∧ ch = ch0 ∧ rl = rl0 ∧ bd = bd0))) ?_ ?_
  · walk_at "wp"
    by_cases hk : kind = 7
    case neg =>
      rw [if_neg hk]
      exact ⟨_, _, _, _, _, _, _, _, _, _, rfl, inv.elim (fun h => .inl ⟨by omega, h.2⟩) (fun h => .inr ⟨by omega, h.2⟩)⟩
    rw [if_pos hk]
    obtain ⟨_, e1, e2, e3, e4, e5, e6⟩ := inv.elim (fun h => absurd h.1 (by omega)) id
    subst e1 e2 e3 e4 e5 e6
    clear inv
    obtain ⟨r, hr⟩ := get_at (xs := rl) (x := 0) (by omega)
    have hr : rl[0]? = some r := hr
    have hrm : r ∈ rl := List.mem_of_getElem? hr
    refine is_mRange (by omega) ?_
    refine comp_any (fun q => q.1.length ≤ 1000 ∧ q.2 = r.2) (fun s => ∃ b, s = (ds, (st, sa, va, ch, rl, bd, u), kind, st, sa, va, ch, rl, bd, od, a, b, ())) (by rw [irange_length]; omega) ⟨_, rfl⟩ ?_ ?_
    · rintro x s hx ⟨b, rfl⟩
      have hx := irange_mem.mp hx
      simp only [Res.is_bind]
      walk_at "wp"
      refine is_mStr (by omega) (by omega) ?_
      walk_at "wp"
      have hn : (TL.numL x.toNat).length = 1 := by rw [TL.numL_lt (by omega)]; rfl
      refine is_mCat (by rw [hn]; decide) ?_
      walk_at "wp"
      refine is_mIx r (Int.le_refl _) hr ?_
      walk_at "wp"
      exact ⟨⟨_, rfl, by simp [hn], rfl⟩, _, rfl⟩
    rintro qs s hql hqs ⟨b, rfl⟩
    rw [irange_length] at hql
    have hql : qs.length = 9 := hql
    walk_at "wp"
    obtain ⟨q, hq⟩ := get_at (xs := qs) (x := 8) (by omega)
    have hq : qs[8]? = some q := hq
    exact ⟨_, _, _, _, _, _, _, _, _, _, rfl, .inl ⟨by omega, ⟨sf4 (i := 8) hq (rule_named (.inr (by rw [List.length_map, List.length_take]; omega))), ⟨z1, z2, z3, ⟨by omega, fun q hq => by
      obtain ⟨h1, h2⟩ := hqs q hq
      rw [h2]
      exact ⟨h1, (z4.2 r hrm).2⟩⟩, z5⟩⟩⟩⟩
  clear inv
  rintro l ⟨ds, st, sa, va, ch, rl, bd, od, a, b, rfl, inv⟩
  refine cut0 (fun l => ∃ ds st sa va ch rl bd od a b, l = (ds, (st0, sa0, va0, ch0, rl0, bd0, u), kind, st, sa, va, ch, rl, bd, od, a, b, ()) ∧ ((kind < 11 ∧ Spoilt st sa va ch rl bd) ∨ (11 ≤ kind ∧ st = st0 ∧ sa = sa0 ∧ va = va0 ∧ ch = ch0 ∧ rl = rl0 ∧ bd = bd0))) ?_ ?_
  · walk_at "wp"
    by_cases hk : 7 < kind ∧ kind < 11
    case neg =>
      by_cases h7 : (7 : Int) < kind
      · rw [if_pos h7, if_neg (fun h => hk ⟨h7, h⟩)]
        exact ⟨_, _, _, _, _, _, _, _, _, _, rfl, inv.elim (fun h => .inl ⟨by omega, h.2⟩) (fun h => .inr ⟨by omega, h.2⟩)⟩
      · rw [if_neg h7]
        exact ⟨_, _, _, _, _, _, _, _, _, _, rfl, inv.elim (fun h => .inl ⟨by omega, h.2⟩) (fun h => .inr ⟨by omega, h.2⟩)⟩
    rw [if_pos hk.1, if_pos hk.2]
    obtain ⟨_, e1, e2, e3, e4, e5, e6⟩ := inv.elim (fun h => absurd h.1 (by omega)) id
    subst e1 e2 e3 e4 e5 e6
    clear inv
    refine take_is (by omega) fun i ds' i0 i1 => ?_
    walk_at "wp"
    obtain ⟨r, hr⟩ := get_at (xs := rl) (x := i) ⟨i0, i1⟩
    have hrm : r ∈ rl := List.mem_of_getElem? hr
    refine is_mIx r i0 hr ?_
    walk_at "wp"
    refine spoilt_rule_is hst hva hch ⟨(z4.2 r hrm).1, (z4.2 r hrm).2⟩ fun r' ds' hb => ?_
    walk_at "wp"
    rw [cut_take i0, cut_drop (by omega)]
    have hlt : (rl.take i.toNat).length = i.toNat := take_len ⟨i0, i1⟩
    refine is_mCat (by rw [hlt]; show _ + 1 ≤ _; omega) ?_
    walk_at "wp"
    refine is_mCat (by rw [List.length_append, hlt, List.length_drop]; show _ + 1 + _ ≤ _; omega) ?_
    walk_at "wp"
    exact ⟨_, _, _, _, _, _, _, _, _, _, rfl, .inl ⟨by omega, ⟨sf4 (i := i.toNat) (r := r') (by rw [List.append_assoc, List.getElem?_append_right (by omega), hlt, Nat.sub_self]; rfl) (hb.b _), ⟨z1, z2, z3, ⟨by rw [List.length_append, List.length_append, hlt, List.length_drop]; show _ + 1 + _ ≤ _; omega, fun q hq => by
      rcases List.mem_append.mp hq with h | h
      · rcases List.mem_append.mp h with h | h
        · exact z4.2 q (List.mem_of_mem_take h)
        · rw [List.mem_singleton.mp h]; exact ⟨hb.n, hb.s⟩
      · exact z4.2 q (List.mem_of_mem_drop h)⟩, z5⟩⟩⟩⟩
  clear inv
  rintro l ⟨ds, st, sa, va, ch, rl, bd, od, a, b, rfl, inv⟩
  refine cut0 (fun l => ∃ ds st sa va ch rl bd od a b, l = (ds, (st0, sa0, va0, ch0, rl0, bd0, u), kind, st, sa, va, ch, rl, bd, od, a, b, ()) ∧ ((kind < 12 ∧ Spoilt st sa va ch rl bd) ∨ (12 ≤ kind ∧ st = st0 ∧ sa = sa0 ∧ va = va0 ∧ ch = ch0 ∧ rl = rl0 ∧ bd = bd0))) ?_ ?_
  · walk_at "wp"
    by_cases hk : kind = 11
    case neg =>
      rw [if_neg hk]
      exact ⟨_, _, _, _, _, _, _, _, _, _, rfl, inv.elim (fun h => .inl ⟨by omega, h.2⟩) (fun h => .inr ⟨by omega, h.2⟩)⟩
    rw [if_pos hk]
    obtain ⟨_, e1, e2, e3, e4, e5, e6⟩ := inv.elim (fun h => absurd h.1 (by omega)) id
    subst e1 e2 e3 e4 e5 e6
    clear inv
    refine spoilt_pattern_is hst fun p ds' hp => ?_
    walk_at "wp"
    obtain ⟨h1, h2, h3⟩ := oddP_bad _ hst _ hva _ hp
    refine is_mCat (by show _ + 1 ≤ _; omega) ?_
    walk_at "wp"
    refine is_mRep (by omega) (by show bd.length * 5 ≤ _; omega) ?_
    walk_at "wp"
    refine take_is (by omega) fun i ds' i0 i1 => ?_
    walk_at "wp"
    have hfl : (List.replicate (5 : Int).toNat bd).flatten.length = 5 * bd.length := by rw [PyProof.Rows.lm_len_rep_flat]; rfl
    unfold mInt
    rw [Res.is_ok]
    split
    · refine is_mIx (List.replicate (5 : Int).toNat bd).flatten (by decide) rfl ?_
      obtain ⟨q, hq⟩ := get_at (xs := (List.replicate (5 : Int).toNat bd).flatten) (x := 4) (by omega)
      have hq : (List.replicate (5 : Int).toNat bd).flatten[4]? = some q := hq
      refine ⟨_, _, _, _, _, _, _, _, _, _, rfl, .inl ⟨by omega, ⟨sf5 (i := 4) hq (by unfold pattB; rw [decide_eq_false fun z => z (.inl (Nat.le_refl 4)), Bool.false_and]), ⟨z1, z2, z3, z4, by omega, fun q hq => ?_⟩⟩⟩⟩
      obtain ⟨l, hl, hql⟩ := List.mem_flatten.mp hq
      rw [(List.mem_replicate.mp hl).2] at hql
      exact z5.2 q hql
    · refine is_mIx (bd ++ [p]) (Int.le_refl _) rfl ?_
      exact ⟨_, _, _, _, _, _, _, _, _, _, rfl, .inl ⟨by omega, ⟨sf5 (i := bd.length) (p := p) (by rw [List.getElem?_append_right (Nat.le_refl _), Nat.sub_self]; rfl) (patt_bad h1), ⟨z1, z2, z3, z4, by simp; omega, fun q hq => (List.mem_append.mp hq).elim (z5.2 q) fun h => by rw [List.mem_singleton.mp h]; exact ⟨h2, h3⟩⟩⟩⟩⟩
  clear inv
  rintro l ⟨ds, st, sa, va, ch, rl, bd, od, a, b, rfl, inv⟩
  walk_at "wp"
  have hb : Spoilt st sa va ch rl bd := inv.elim (·.2) (fun h => absurd h.1 (by omega))
  exact k _ _ hb

end W
namespace W
open PySem PySem.Spec PyProof.Rows L2 TC
local macro_rules | `(tactic| walk_at "wp") => `(tactic| ((try simp only [w_V, w_C, w_F, w_U, w_B, w_Cmp, w_And, w_Or, w_Ite, w_Chain, w_IxO, w_LenO, w_Nil, w_Cons, w_U0, w_Pair, w_CallL, w_Make, w_Lc, w_LcIf, w_Pop, w_DGet, w_DGetN, w_DIn, w_DNin, w_InO, w_NinO, w_D1, w_Range1, w_Range2, w_Set, w_Expr, w_App, w_Rev, w_Store, w_AddI, w_DPut, w_If, w_For, w_While, w_Nx, w_SeqL, w_Ret, w_RetL, w_FldNew, w_Bk, w_Ct, w_Run, gZ_eq, gS_eq, pZ_eq, pS_eq, pP_eq, pN_eq, pC_eq, c3_eq, c2_eq, iS_eq, iZ_eq, Res.is_ok, is_mAdd, is_mSub, w_AppIx, mEq_eq, mNe_eq, mLt_eq, mLe_eq, mGt_eq, mGe_eq, mIn_eq, mNin_eq, w_Er, w_ErN, w_Try, w_Cut, w_AugIx, w_mSome, w_mInl, w_mInr, mAlt_l, mAlt_r, w_noErRt, Bool.not_true, Bool.not_false, if_true, Bool.false_eq_true, if_false, decide_eq_true_eq, Bool.not_eq_true', decide_eq_false_iff_not, reduceCtorEq, decide_true, decide_false, Option.isSome_none, Option.isSome_some, Option.isNone_none, Option.isNone_some, w_Mv, mInS_eq, mNinS_eq]); (repeat (rw [rest_eq]; (try simp only [w_V, w_C, w_F, w_U, w_B, w_Cmp, w_And, w_Or, w_Ite, w_Chain, w_IxO, w_LenO, w_Nil, w_Cons, w_U0, w_Pair, w_CallL, w_Make, w_Lc, w_LcIf, w_Pop, w_DGet, w_DGetN, w_DIn, w_DNin, w_InO, w_NinO, w_D1, w_Range1, w_Range2, w_Set, w_Expr, w_App, w_Rev, w_Store, w_AddI, w_DPut, w_If, w_For, w_While, w_Nx, w_SeqL, w_Ret, w_RetL, w_FldNew, w_Bk, w_Ct, w_Run, gZ_eq, gS_eq, pZ_eq, pS_eq, pP_eq, pN_eq, pC_eq, c3_eq, c2_eq, iS_eq, iZ_eq, Res.is_ok, is_mAdd, is_mSub, w_AppIx, mEq_eq, mNe_eq, mLt_eq, mLe_eq, mGt_eq, mGe_eq, mIn_eq, mNin_eq, w_Er, w_ErN, w_Try, w_Cut, w_AugIx, w_mSome, w_mInl, w_mInr, mAlt_l, mAlt_r, w_noErRt, Bool.not_true, Bool.not_false, if_true, Bool.false_eq_true, if_false, decide_eq_true_eq, Bool.not_eq_true', decide_eq_false_iff_not, reduceCtorEq, decide_true, decide_false, Option.isSome_none, Option.isSome_some, Option.isNone_none, Option.isNone_some, w_Mv, mInS_eq, mNinS_eq])))))
abbrev wordsW : List Tx := [[97], [97, 49], [105, 102], [97, 108, 108], [110, 101, 119], [115, 101, 116], [104, 101, 97, 114], [115, 101, 110, 100], [108, 111, 115, 101], [103, 111, 110, 101], [], [49, 97], [65], [97, 66], [97, 32, 98], [114, 117, 108, 101], [98, 97, 100]]
theorem words_ok : ∀ w ∈ wordsW, nameB w = decide (w ∈ ([[97], [97, 49], [114, 117, 108, 101], [98, 97, 100]] : List Tx)) ∧ w.length ≤ 1000 := by decide +kernel
theorem law_true (ns : List Int) (hns : ns.length ≤ 63) : m_law (ns, ()) = .ok true := by
  refine of_is ?_
  unfold m_law
  walk_at "wp"
  refine draws_is hns (by omega) (by omega) fun ds => ?_
  walk_at "wp"
  refine law_system_is (most := 3) (by omega) fun P ds hP => ?_
  walk_at "wp"
  refine take_is (by omega) fun i ds _ _ => ?_
  walk_at "wp"
  have hb : sysBP P = true := sysB_of (hP.sys (by omega))
  have hz := hP.small (by omega)
  split
  · refine spoilt_is hP fun P' ds' hs => ?_
    walk_at "wp"
    refine outcome_is hs.z (fun h => ?_) (fun h => ?_)
    · rw [show sysBP P' = false from hs.b] at h; cases h
    · walk_at "wp"
  · refine outcome_is hz (fun h => ?_) (fun h => ?_)
    · walk_at "wp"
      refine system_is hz ?_
      walk_at "wp"
      refine take_is (by omega) fun i ds i0 i1 => ?_
      walk_at "wp"
      refine is_mIxD [] i0 (by simpa using i1) ?_
      obtain ⟨h1, h2⟩ := words_ok _ (pick_mem (xs := wordsW) (d := []) i0 (by simpa using i1))
      walk_at "wp"
      refine is_name_is (by show List.length (wordsW.getD i.toNat []) ≤ _; omega) ?_
      walk_at "wp"
      exact h1
    · rw [hb] at h; cases h

end W
set_option synthInstance.maxHeartbeats 400000
set_option synthInstance.maxSize 100000
namespace W
open PySem PySem.Spec PyProof.Rows L2 TC
abbrev St' := L2.St
def topS' (i : Nat) : Stmt := PySem.Challenge.pw_covernets_k45_systems.main.body.getD i (.Pass ⟨0, 0, 0, 0⟩)
abbrev XR0 : XRel := fun _ _ _ _ => True
theorem all_mk {l : PySem.W.OpenLaw} {w : World} {K : PySem.W.Frag} {h : Heap} {mg : Str → Option Value} {fa f1 f2 f3 f4 f5 f6 f7 f8 f9 f10 f11 f12 f13 f14 f15 f16 f17 f18 f19 f20 f21 f22 f23 f24 f25 f26 f27 f28 f29 CRule CSystem CInvalidProtocol : Addr} (X : K.In h) (G : h.Ns mainGlobals mg) (hfa : mg "law" = some (.ref fa))
    {tkDIGITS tkGONE tkLOWER tkRESERVED0 tkRESERVED1 tkRESERVED2 tkRESERVED3 tkRESERVED4 tkRESERVED5 tkRESERVED6 tkRESERVED7 : Tok}
    {od1 an1 : Option Addr} {sl1 : Array (Option Value)} {oc1 kV1 dc1 pm1 cd1 ct1 : Value}
    {od2 an2 : Option Addr} {sl2 : Array (Option Value)} {oc2 kV2 dc2 pm2 cd2 ct2 : Value}
    {od3 an3 : Option Addr} {sl3 : Array (Option Value)} {oc3 kV3 dc3 pm3 cd3 ct3 : Value}
    {od4 an4 : Option Addr} {sl4 : Array (Option Value)} {oc4 kV4 dc4 pm4 cd4 ct4 : Value}
    {od5 an5 : Option Addr} {sl5 : Array (Option Value)} {oc5 kV5 dc5 pm5 cd5 ct5 : Value}
    {od6 an6 : Option Addr} {sl6 : Array (Option Value)} {oc6 kV6 dc6 pm6 cd6 ct6 : Value}
    {od7 an7 : Option Addr} {sl7 : Array (Option Value)} {oc7 kV7 dc7 pm7 cd7 ct7 : Value}
    {od8 an8 : Option Addr} {sl8 : Array (Option Value)} {oc8 kV8 dc8 pm8 cd8 ct8 : Value}
    {od9 an9 : Option Addr} {sl9 : Array (Option Value)} {oc9 kV9 dc9 pm9 cd9 ct9 : Value}
    {od10 an10 : Option Addr} {sl10 : Array (Option Value)} {oc10 kV10 dc10 pm10 cd10 ct10 : Value}
    {od11 an11 : Option Addr} {sl11 : Array (Option Value)} {oc11 kV11 dc11 pm11 cd11 ct11 : Value}
    {od12 an12 : Option Addr} {sl12 : Array (Option Value)} {oc12 kV12 dc12 pm12 cd12 ct12 : Value}
    {od13 an13 : Option Addr} {sl13 : Array (Option Value)} {oc13 kV13 dc13 pm13 cd13 ct13 : Value}
    {od14 an14 : Option Addr} {sl14 : Array (Option Value)} {oc14 kV14 dc14 pm14 cd14 ct14 : Value}
    {od15 an15 : Option Addr} {sl15 : Array (Option Value)} {oc15 kV15 dc15 pm15 cd15 ct15 : Value}
    {od16 an16 : Option Addr} {sl16 : Array (Option Value)} {oc16 kV16 dc16 pm16 cd16 ct16 : Value}
    {od17 an17 : Option Addr} {sl17 : Array (Option Value)} {oc17 kV17 dc17 pm17 cd17 ct17 : Value}
    {od18 an18 : Option Addr} {sl18 : Array (Option Value)} {oc18 kV18 dc18 pm18 cd18 ct18 : Value}
    {od19 an19 : Option Addr} {sl19 : Array (Option Value)} {oc19 kV19 dc19 pm19 cd19 ct19 : Value}
    {od20 an20 : Option Addr} {sl20 : Array (Option Value)} {oc20 kV20 dc20 pm20 cd20 ct20 : Value}
    {od21 an21 : Option Addr} {sl21 : Array (Option Value)} {oc21 kV21 dc21 pm21 cd21 ct21 : Value}
    {od22 an22 : Option Addr} {sl22 : Array (Option Value)} {oc22 kV22 dc22 pm22 cd22 ct22 : Value}
    {od23 an23 : Option Addr} {sl23 : Array (Option Value)} {oc23 kV23 dc23 pm23 cd23 ct23 : Value}
    {od24 an24 : Option Addr} {sl24 : Array (Option Value)} {oc24 kV24 dc24 pm24 cd24 ct24 : Value}
    {od25 an25 : Option Addr} {sl25 : Array (Option Value)} {oc25 kV25 dc25 pm25 cd25 ct25 : Value}
    {od26 an26 : Option Addr} {sl26 : Array (Option Value)} {oc26 kV26 dc26 pm26 cd26 ct26 : Value}
    {od27 an27 : Option Addr} {sl27 : Array (Option Value)} {oc27 kV27 dc27 pm27 cd27 ct27 : Value}
    {od28 an28 : Option Addr} {sl28 : Array (Option Value)} {oc28 kV28 dc28 pm28 cd28 ct28 : Value}
    {od29 an29 : Option Addr} {sl29 : Array (Option Value)} {oc29 kV29 dc29 pm29 cd29 ct29 : Value}
    {adRESERVED : Addr} {ddRESERVED : Option Addr} {nnRESERVED : Nat} {ssRESERVED : Array (Option Value)}
    (a1 : PySem.W.nsIn K mainGlobals "is_name" = some (some (.ref f1))) (l1 : K.lookup f1 = some ⟨oc1, od1, .func (PySem.W.fnOf "is_name" "is_name" (defArgs s_is_name) (defBody s_is_name) (defScope s_is_name) .none kV1 dc1 pm1 an1 cd1 ct1), sl1⟩) (c1 : PySem.W.codeIn K cd1 "is_name" = true) (k1 : PySem.W.keepIn K (.ref f1) = true)
    (a2 : PySem.W.nsIn K mainGlobals "pairs_of" = some (some (.ref f2))) (l2 : K.lookup f2 = some ⟨oc2, od2, .func (PySem.W.fnOf "pairs_of" "pairs_of" (defArgs s_pairs_of) (defBody s_pairs_of) (defScope s_pairs_of) .none kV2 dc2 pm2 an2 cd2 ct2), sl2⟩) (c2 : PySem.W.codeIn K cd2 "pairs_of" = true) (k2 : PySem.W.keepIn K (.ref f2) = true)
    (aCRule : PySem.W.nsIn K mainGlobals "Rule" = some (some (.ref CRule)))
    (a3 : PySem.W.findIn K (.ref CRule) "__init__" = some (some (.ref f3))) (i3 : PySem.W.isFn K (.ref f3) = true) (l3 : K.lookup f3 = some ⟨oc3, od3, .func (PySem.W.fnOf "__init__" "Rule.__init__" (defArgs s_Rule) (defBody s_Rule) (defScope s_Rule) .none kV3 dc3 pm3 an3 cd3 ct3), sl3⟩) (c3 : PySem.W.codeIn K cd3 "Rule.__init__" = true) (k3 : PySem.W.keepIn K (.ref f3) = true)
    (pgRule : PySem.W.plainGet K CRule Str.empty = true) (hdRule : PySem.W.hasDictIn K CRule = true) (poRule : PySem.W.plainOver K CRule = true) (saRule : PySem.W.findIn K (.ref CRule) "__setattr__" = some (some (.builtin "object.__setattr__"))) (mkRule : PySem.W.makesIn K CRule = true) (kcRule : PySem.W.keepIn K (.ref CRule) = true)
    (nRulename : PySem.W.findIn K (.ref CRule) "name" = some none)
    (nRuleactors : PySem.W.findIn K (.ref CRule) "actors" = some none)
    (nRuleeveryone : PySem.W.findIn K (.ref CRule) "everyone" = some none)
    (nRuleborn : PySem.W.findIn K (.ref CRule) "born" = some none)
    (nRuleconditions : PySem.W.findIn K (.ref CRule) "conditions" = some none)
    (nRuleeffects : PySem.W.findIn K (.ref CRule) "effects" = some none)
    (nRulehears : PySem.W.findIn K (.ref CRule) "hears" = some none)
    (nRulesends : PySem.W.findIn K (.ref CRule) "sends" = some none)
    (a4 : PySem.W.nsIn K mainGlobals "are_different" = some (some (.ref f4))) (l4 : K.lookup f4 = some ⟨oc4, od4, .func (PySem.W.fnOf "are_different" "are_different" (defArgs s_are_different) (defBody s_are_different) (defScope s_are_different) .none kV4 dc4 pm4 an4 cd4 ct4), sl4⟩) (c4 : PySem.W.codeIn K cd4 "are_different" = true) (k4 : PySem.W.keepIn K (.ref f4) = true)
    (a5 : PySem.W.nsIn K mainGlobals "are_names" = some (some (.ref f5))) (l5 : K.lookup f5 = some ⟨oc5, od5, .func (PySem.W.fnOf "are_names" "are_names" (defArgs s_are_names) (defBody s_are_names) (defScope s_are_names) .none kV5 dc5 pm5 an5 cd5 ct5), sl5⟩) (c5 : PySem.W.codeIn K cd5 "are_names" = true) (k5 : PySem.W.keepIn K (.ref f5) = true)
    (a6 : PySem.W.nsIn K mainGlobals "right_moves" = some (some (.ref f6))) (l6 : K.lookup f6 = some ⟨oc6, od6, .func (PySem.W.fnOf "right_moves" "right_moves" (defArgs s_right_moves) (defBody s_right_moves) (defScope s_right_moves) .none kV6 dc6 pm6 an6 cd6 ct6), sl6⟩) (c6 : PySem.W.codeIn K cd6 "right_moves" = true) (k6 : PySem.W.keepIn K (.ref f6) = true)
    (a7 : PySem.W.nsIn K mainGlobals "right_values" = some (some (.ref f7))) (l7 : K.lookup f7 = some ⟨oc7, od7, .func (PySem.W.fnOf "right_values" "right_values" (defArgs s_right_values) (defBody s_right_values) (defScope s_right_values) .none kV7 dc7 pm7 an7 cd7 ct7), sl7⟩) (c7 : PySem.W.codeIn K cd7 "right_values" = true) (k7 : PySem.W.keepIn K (.ref f7) = true)
    (a8 : PySem.W.nsIn K mainGlobals "right_states" = some (some (.ref f8))) (l8 : K.lookup f8 = some ⟨oc8, od8, .func (PySem.W.fnOf "right_states" "right_states" (defArgs s_right_states) (defBody s_right_states) (defScope s_right_states) .none kV8 dc8 pm8 an8 cd8 ct8), sl8⟩) (c8 : PySem.W.codeIn K cd8 "right_states" = true) (k8 : PySem.W.keepIn K (.ref f8) = true)
    (a9 : PySem.W.nsIn K mainGlobals "right_variable" = some (some (.ref f9))) (l9 : K.lookup f9 = some ⟨oc9, od9, .func (PySem.W.fnOf "right_variable" "right_variable" (defArgs s_right_variable) (defBody s_right_variable) (defScope s_right_variable) .none kV9 dc9 pm9 an9 cd9 ct9), sl9⟩) (c9 : PySem.W.codeIn K cd9 "right_variable" = true) (k9 : PySem.W.keepIn K (.ref f9) = true)
    (a10 : PySem.W.nsIn K mainGlobals "right_channel" = some (some (.ref f10))) (l10 : K.lookup f10 = some ⟨oc10, od10, .func (PySem.W.fnOf "right_channel" "right_channel" (defArgs s_right_channel) (defBody s_right_channel) (defScope s_right_channel) .none kV10 dc10 pm10 an10 cd10 ct10), sl10⟩) (c10 : PySem.W.codeIn K cd10 "right_channel" = true) (k10 : PySem.W.keepIn K (.ref f10) = true)
    (a11 : PySem.W.nsIn K mainGlobals "right_rule" = some (some (.ref f11))) (l11 : K.lookup f11 = some ⟨oc11, od11, .func (PySem.W.fnOf "right_rule" "right_rule" (defArgs s_right_rule) (defBody s_right_rule) (defScope s_right_rule) .none kV11 dc11 pm11 an11 cd11 ct11), sl11⟩) (c11 : PySem.W.codeIn K cd11 "right_rule" = true) (k11 : PySem.W.keepIn K (.ref f11) = true)
    (a12 : PySem.W.nsIn K mainGlobals "right_pattern" = some (some (.ref f12))) (l12 : K.lookup f12 = some ⟨oc12, od12, .func (PySem.W.fnOf "right_pattern" "right_pattern" (defArgs s_right_pattern) (defBody s_right_pattern) (defScope s_right_pattern) .none kV12 dc12 pm12 an12 cd12 ct12), sl12⟩) (c12 : PySem.W.codeIn K cd12 "right_pattern" = true) (k12 : PySem.W.keepIn K (.ref f12) = true)
    (aCSystem : PySem.W.nsIn K mainGlobals "System" = some (some (.ref CSystem)))
    (a13 : PySem.W.findIn K (.ref CSystem) "__init__" = some (some (.ref f13))) (i13 : PySem.W.isFn K (.ref f13) = true) (l13 : K.lookup f13 = some ⟨oc13, od13, .func (PySem.W.fnOf "__init__" "System.__init__" (defArgs s_System) (defBody s_System) (defScope s_System) .none kV13 dc13 pm13 an13 cd13 ct13), sl13⟩) (c13 : PySem.W.codeIn K cd13 "System.__init__" = true) (k13 : PySem.W.keepIn K (.ref f13) = true)
    (pgSystem : PySem.W.plainGet K CSystem Str.empty = true) (hdSystem : PySem.W.hasDictIn K CSystem = true) (poSystem : PySem.W.plainOver K CSystem = true) (saSystem : PySem.W.findIn K (.ref CSystem) "__setattr__" = some (some (.builtin "object.__setattr__"))) (mkSystem : PySem.W.makesIn K CSystem = true) (kcSystem : PySem.W.keepIn K (.ref CSystem) = true)
    (nSystemstates : PySem.W.findIn K (.ref CSystem) "states" = some none)
    (nSystemstart : PySem.W.findIn K (.ref CSystem) "start" = some none)
    (nSystemvariables : PySem.W.findIn K (.ref CSystem) "variables" = some none)
    (nSystemchannels : PySem.W.findIn K (.ref CSystem) "channels" = some none)
    (nSystemrules : PySem.W.findIn K (.ref CSystem) "rules" = some none)
    (nSystembad : PySem.W.findIn K (.ref CSystem) "bad" = some none)
    (a14 : PySem.W.nsIn K mainGlobals "_law_draws" = some (some (.ref f14))) (l14 : K.lookup f14 = some ⟨oc14, od14, .func (PySem.W.fnOf "_law_draws" "_law_draws" (defArgs s__law_draws) (defBody s__law_draws) (defScope s__law_draws) .none kV14 dc14 pm14 an14 cd14 ct14), sl14⟩) (c14 : PySem.W.codeIn K cd14 "_law_draws" = true) (k14 : PySem.W.keepIn K (.ref f14) = true)
    (a15 : PySem.W.nsIn K mainGlobals "_law_take" = some (some (.ref f15))) (l15 : K.lookup f15 = some ⟨oc15, od15, .func (PySem.W.fnOf "_law_take" "_law_take" (defArgs s__law_take) (defBody s__law_take) (defScope s__law_take) .none kV15 dc15 pm15 an15 cd15 ct15), sl15⟩) (c15 : PySem.W.codeIn K cd15 "_law_take" = true) (k15 : PySem.W.keepIn K (.ref f15) = true)
    (a16 : PySem.W.nsIn K mainGlobals "_law_target" = some (some (.ref f16))) (l16 : K.lookup f16 = some ⟨oc16, od16, .func (PySem.W.fnOf "_law_target" "_law_target" (defArgs s__law_target) (defBody s__law_target) (defScope s__law_target) .none kV16 dc16 pm16 an16 cd16 ct16), sl16⟩) (c16 : PySem.W.codeIn K cd16 "_law_target" = true) (k16 : PySem.W.keepIn K (.ref f16) = true)
    (a17 : PySem.W.nsIn K mainGlobals "_law_values" = some (some (.ref f17))) (l17 : K.lookup f17 = some ⟨oc17, od17, .func (PySem.W.fnOf "_law_values" "_law_values" (defArgs s__law_values) (defBody s__law_values) (defScope s__law_values) .none kV17 dc17 pm17 an17 cd17 ct17), sl17⟩) (c17 : PySem.W.codeIn K cd17 "_law_values" = true) (k17 : PySem.W.keepIn K (.ref f17) = true)
    (a18 : PySem.W.nsIn K mainGlobals "_law_rule" = some (some (.ref f18))) (l18 : K.lookup f18 = some ⟨oc18, od18, .func (PySem.W.fnOf "_law_rule" "_law_rule" (defArgs s__law_rule) (defBody s__law_rule) (defScope s__law_rule) .none kV18 dc18 pm18 an18 cd18 ct18), sl18⟩) (c18 : PySem.W.codeIn K cd18 "_law_rule" = true) (k18 : PySem.W.keepIn K (.ref f18) = true)
    (a19 : PySem.W.nsIn K mainGlobals "_law_pattern" = some (some (.ref f19))) (l19 : K.lookup f19 = some ⟨oc19, od19, .func (PySem.W.fnOf "_law_pattern" "_law_pattern" (defArgs s__law_pattern) (defBody s__law_pattern) (defScope s__law_pattern) .none kV19 dc19 pm19 an19 cd19 ct19), sl19⟩) (c19 : PySem.W.codeIn K cd19 "_law_pattern" = true) (k19 : PySem.W.keepIn K (.ref f19) = true)
    (a20 : PySem.W.nsIn K mainGlobals "_law_system" = some (some (.ref f20))) (l20 : K.lookup f20 = some ⟨oc20, od20, .func (PySem.W.fnOf "_law_system" "_law_system" (defArgs s__law_system) (defBody s__law_system) (defScope s__law_system) .none kV20 dc20 pm20 an20 cd20 ct20), sl20⟩) (c20 : PySem.W.codeIn K cd20 "_law_system" = true) (k20 : PySem.W.keepIn K (.ref f20) = true)
    (a21 : PySem.W.nsIn K mainGlobals "_law_made" = some (some (.ref f21))) (l21 : K.lookup f21 = some ⟨oc21, od21, .func (PySem.W.fnOf "_law_made" "_law_made" (defArgs s__law_made) (defBody s__law_made) (defScope s__law_made) .none kV21 dc21 pm21 an21 cd21 ct21), sl21⟩) (c21 : PySem.W.codeIn K cd21 "_law_made" = true) (k21 : PySem.W.keepIn K (.ref f21) = true)
    (a22 : PySem.W.nsIn K mainGlobals "_law_outcome" = some (some (.ref f22))) (l22 : K.lookup f22 = some ⟨oc22, od22, .func (PySem.W.fnOf "_law_outcome" "_law_outcome" (defArgs s__law_outcome) (defBody s__law_outcome) (defScope s__law_outcome) .none kV22 dc22 pm22 an22 cd22 ct22), sl22⟩) (c22 : PySem.W.codeIn K cd22 "_law_outcome" = true) (k22 : PySem.W.keepIn K (.ref f22) = true)
    (a23 : PySem.W.nsIn K mainGlobals "_law_spoilt_rule" = some (some (.ref f23))) (l23 : K.lookup f23 = some ⟨oc23, od23, .func (PySem.W.fnOf "_law_spoilt_rule" "_law_spoilt_rule" (defArgs s__law_spoilt_rule) (defBody s__law_spoilt_rule) (defScope s__law_spoilt_rule) .none kV23 dc23 pm23 an23 cd23 ct23), sl23⟩) (c23 : PySem.W.codeIn K cd23 "_law_spoilt_rule" = true) (k23 : PySem.W.keepIn K (.ref f23) = true)
    (a24 : PySem.W.nsIn K mainGlobals "_law_spoilt_pattern" = some (some (.ref f24))) (l24 : K.lookup f24 = some ⟨oc24, od24, .func (PySem.W.fnOf "_law_spoilt_pattern" "_law_spoilt_pattern" (defArgs s__law_spoilt_pattern) (defBody s__law_spoilt_pattern) (defScope s__law_spoilt_pattern) .none kV24 dc24 pm24 an24 cd24 ct24), sl24⟩) (c24 : PySem.W.codeIn K cd24 "_law_spoilt_pattern" = true) (k24 : PySem.W.keepIn K (.ref f24) = true)
    (a25 : PySem.W.nsIn K mainGlobals "_law_spoilt" = some (some (.ref f25))) (l25 : K.lookup f25 = some ⟨oc25, od25, .func (PySem.W.fnOf "_law_spoilt" "_law_spoilt" (defArgs s__law_spoilt) (defBody s__law_spoilt) (defScope s__law_spoilt) .none kV25 dc25 pm25 an25 cd25 ct25), sl25⟩) (c25 : PySem.W.codeIn K cd25 "_law_spoilt" = true) (k25 : PySem.W.keepIn K (.ref f25) = true)
    (a26 : PySem.W.nsIn K mainGlobals "_law_is_kept" = some (some (.ref f26))) (l26 : K.lookup f26 = some ⟨oc26, od26, .func (PySem.W.fnOf "_law_is_kept" "_law_is_kept" (defArgs s__law_is_kept) (defBody s__law_is_kept) (defScope s__law_is_kept) .none kV26 dc26 pm26 an26 cd26 ct26), sl26⟩) (c26 : PySem.W.codeIn K cd26 "_law_is_kept" = true) (k26 : PySem.W.keepIn K (.ref f26) = true)
    (a27 : PySem.W.nsIn K mainGlobals "_law_is_rule" = some (some (.ref f27))) (l27 : K.lookup f27 = some ⟨oc27, od27, .func (PySem.W.fnOf "_law_is_rule" "_law_is_rule" (defArgs s__law_is_rule) (defBody s__law_is_rule) (defScope s__law_is_rule) .none kV27 dc27 pm27 an27 cd27 ct27), sl27⟩) (c27 : PySem.W.codeIn K cd27 "_law_is_rule" = true) (k27 : PySem.W.keepIn K (.ref f27) = true)
    (a28 : PySem.W.nsIn K mainGlobals "_law_is_system" = some (some (.ref f28))) (l28 : K.lookup f28 = some ⟨oc28, od28, .func (PySem.W.fnOf "_law_is_system" "_law_is_system" (defArgs s__law_is_system) (defBody s__law_is_system) (defScope s__law_is_system) .none kV28 dc28 pm28 an28 cd28 ct28), sl28⟩) (c28 : PySem.W.codeIn K cd28 "_law_is_system" = true) (k28 : PySem.W.keepIn K (.ref f28) = true)
    (a29 : PySem.W.nsIn K mainGlobals "law" = some (some (.ref f29))) (l29 : K.lookup f29 = some ⟨oc29, od29, .func (PySem.W.fnOf "law" "law" (defArgs s_law) (defBody s_law) (defScope s_law) .none kV29 dc29 pm29 an29 cd29 ct29), sl29⟩) (c29 : PySem.W.codeIn K cd29 "law" = true) (k29 : PySem.W.keepIn K (.ref f29) = true)
    (zDIGITS : PySem.W.nsIn K mainGlobals "DIGITS" = some (some (.str "0123456789" tkDIGITS)))
    (zGONE : PySem.W.nsIn K mainGlobals "GONE" = some (some (.str "gone" tkGONE)))
    (zLOWER : PySem.W.nsIn K mainGlobals "LOWER" = some (some (.str "abcdefghijklmnopqrstuvwxyz" tkLOWER)))
    (zRESERVED : PySem.W.nsIn K mainGlobals "RESERVED" = some (some (.ref adRESERVED)))
    (lkRESERVED : K.lookup adRESERVED = some ⟨.type "tuple", ddRESERVED, .seq #[.str "all" tkRESERVED0, .str "new" tkRESERVED1, .str "if" tkRESERVED2, .str "set" tkRESERVED3, .str "hear" tkRESERVED4, .str "send" tkRESERVED5, .str "lose" tkRESERVED6, .str "gone" tkRESERVED7] nnRESERVED, ssRESERVED⟩)
    (zbool : PySem.W.nsIn K mainGlobals "bool" = some none)
    (zint : PySem.W.nsIn K mainGlobals "int" = some none)
    (zisinstance : PySem.W.nsIn K mainGlobals "isinstance" = some none)
    (zlen : PySem.W.nsIn K mainGlobals "len" = some none)
    (zlist : PySem.W.nsIn K mainGlobals "list" = some none)
    (zrange : PySem.W.nsIn K mainGlobals "range" = some none)
    (zset : PySem.W.nsIn K mainGlobals "set" = some none)
    (zstr : PySem.W.nsIn K mainGlobals "str" = some none)
    (ztuple : PySem.W.nsIn K mainGlobals "tuple" = some none)
    (aCInvalidProtocol : PySem.W.nsIn K mainGlobals "InvalidProtocol" = some (some (.ref CInvalidProtocol))) (kcInvalidProtocol : PySem.W.keepIn K (.ref CInvalidProtocol) = true) (ebInvalidProtocol : PySem.W.subIn K (.ref CInvalidProtocol) (.type "BaseException") = some true) (tyInvalidProtocol : PySem.W.typeIn K (.ref CInvalidProtocol) = some (.type "type")) (icInvalidProtocol : PySem.W.isClsIn K CInvalidProtocol = true) (seInvalidProtocol : PySem.W.subIn K (.ref CInvalidProtocol) (.ref CInvalidProtocol) = some true)
    (exInvalidProtocol : PySem.W.excIn K CInvalidProtocol [.type "ValueError", .type "Exception", .type "BaseException", .type "object"] "ValueError.__new__" = true)
    : ∃ fd : FuncData, (∀ (s : Shared) (v : Value), BindsTo s fd ⟨[v], []⟩ [("_law_script", v)]) ∧ ∀ base : Heap, K.In base → base.Ns mainGlobals mg → FnOk l.prog w K mg base (L2.CX l.prog w) 8 fa fd ["_law_script"] (spP XR0 (acons (fz (tScr K tInt)) anil) (fz tBool) m_law) := by
  have e := hfa.symm.trans (PySem.W.mg_of X G a29)
  cases e
  have F1 := fun_mk (st := s_is_name) l1 c1 k1
  have b1 := F1.binds (ps := ["word"]) fun _ _ _ _ _ _ us hl => match us, hl with | [_], _ => rfl
  have Dis_name : DefAt K mg "is_name" s_is_name ["word"] _ _ := ⟨F1, b1, PySem.W.mg_of X G a1⟩
  have F2 := fun_mk (st := s_pairs_of) l2 c2 k2
  have b2 := F2.binds (ps := ["pairs"]) fun _ _ _ _ _ _ us hl => match us, hl with | [_], _ => rfl
  have Dpairs_of : DefAt K mg "pairs_of" s_pairs_of ["pairs"] _ _ := ⟨F2, b2, PySem.W.mg_of X G a2⟩
  have F3 := fun_mk (st := s_Rule) l3 c3 k3
  have b3 := kb_of (ps := ["self", "name", "actors", "everyone", "born", "conditions", "effects", "hears", "sends"]) (n := 3) (ks := ["everyone", "born", "conditions", "effects", "hears", "sends"]) F3 fun _ _ _ _ _ _ us ws h1 h2 => match us, ws, h1, h2 with | [_, _, _], [_, _, _, _, _, _], _, _ => rfl
  have ORule : IniAtK K mg "Rule" "Rule.__init__" s_Rule ["self", "name", "actors", "everyone", "born", "conditions", "effects", "hears", "sends"] 2 ["everyone", "born", "conditions", "effects", "hears", "sends"] CRule f3 _ := ⟨F3, b3, ⟨pgRule, hdRule, poRule, saRule⟩, ⟨mkRule, a3, i3, kcRule⟩, PySem.W.mg_of X G aCRule⟩
  have NRule : NARule K CRule := ⟨nRulename, nRuleactors, nRuleeveryone, nRuleborn, nRuleconditions, nRuleeffects, nRulehears, nRulesends⟩
  have F4 := fun_mk (st := s_are_different) l4 c4 k4
  have b4 := F4.binds (ps := ["names"]) fun _ _ _ _ _ _ us hl => match us, hl with | [_], _ => rfl
  have Dare_different : DefAt K mg "are_different" s_are_different ["names"] _ _ := ⟨F4, b4, PySem.W.mg_of X G a4⟩
  have F5 := fun_mk (st := s_are_names) l5 c5 k5
  have b5 := F5.binds (ps := ["words"]) fun _ _ _ _ _ _ us hl => match us, hl with | [_], _ => rfl
  have Dare_names : DefAt K mg "are_names" s_are_names ["words"] _ _ := ⟨F5, b5, PySem.W.mg_of X G a5⟩
  have F6 := fun_mk (st := s_right_moves) l6 c6 k6
  have b6 := F6.binds (ps := ["pairs", "states"]) fun _ _ _ _ _ _ us hl => match us, hl with | [_, _], _ => rfl
  have Dright_moves : DefAt K mg "right_moves" s_right_moves ["pairs", "states"] _ _ := ⟨F6, b6, PySem.W.mg_of X G a6⟩
  have F7 := fun_mk (st := s_right_values) l7 c7 k7
  have b7 := F7.binds (ps := ["pairs", "variables"]) fun _ _ _ _ _ _ us hl => match us, hl with | [_, _], _ => rfl
  have Dright_values : DefAt K mg "right_values" s_right_values ["pairs", "variables"] _ _ := ⟨F7, b7, PySem.W.mg_of X G a7⟩
  have F8 := fun_mk (st := s_right_states) l8 c8 k8
  have b8 := F8.binds (ps := ["states", "start"]) fun _ _ _ _ _ _ us hl => match us, hl with | [_, _], _ => rfl
  have Dright_states : DefAt K mg "right_states" s_right_states ["states", "start"] _ _ := ⟨F8, b8, PySem.W.mg_of X G a8⟩
  have F9 := fun_mk (st := s_right_variable) l9 c9 k9
  have b9 := F9.binds (ps := ["states", "earlier", "name", "values"]) fun _ _ _ _ _ _ us hl => match us, hl with | [_, _, _, _], _ => rfl
  have Dright_variable : DefAt K mg "right_variable" s_right_variable ["states", "earlier", "name", "values"] _ _ := ⟨F9, b9, PySem.W.mg_of X G a9⟩
  have F10 := fun_mk (st := s_right_channel) l10 c10 k10
  have b10 := F10.binds (ps := ["states", "variables", "earlier", "name", "letters"]) fun _ _ _ _ _ _ us hl => match us, hl with | [_, _, _, _, _], _ => rfl
  have Dright_channel : DefAt K mg "right_channel" s_right_channel ["states", "variables", "earlier", "name", "letters"] _ _ := ⟨F10, b10, PySem.W.mg_of X G a10⟩
  have F11 := fun_mk (st := s_right_rule) l11 c11 k11
  have b11 := F11.binds (ps := ["states", "variables", "channels", "earlier", "rule"]) fun _ _ _ _ _ _ us hl => match us, hl with | [_, _, _, _, _], _ => rfl
  have Dright_rule : DefAt K mg "right_rule" s_right_rule ["states", "variables", "channels", "earlier", "rule"] _ _ := ⟨F11, b11, PySem.W.mg_of X G a11⟩
  have F12 := fun_mk (st := s_right_pattern) l12 c12 k12
  have b12 := F12.binds (ps := ["states", "variables", "earlier", "pattern"]) fun _ _ _ _ _ _ us hl => match us, hl with | [_, _, _, _], _ => rfl
  have Dright_pattern : DefAt K mg "right_pattern" s_right_pattern ["states", "variables", "earlier", "pattern"] _ _ := ⟨F12, b12, PySem.W.mg_of X G a12⟩
  have F13 := fun_mk (st := s_System) l13 c13 k13
  have b13 := kb_of (ps := ["self", "states", "start", "variables", "rules", "bad", "channels"]) (n := 6) (ks := ["channels"]) F13 fun _ _ _ _ _ _ us ws h1 h2 => match us, ws, h1, h2 with | [_, _, _, _, _, _], [_], _, _ => rfl
  have OSystem : IniAtK K mg "System" "System.__init__" s_System ["self", "states", "start", "variables", "rules", "bad", "channels"] 5 ["channels"] CSystem f13 _ := ⟨F13, b13, ⟨pgSystem, hdSystem, poSystem, saSystem⟩, ⟨mkSystem, a13, i13, kcSystem⟩, PySem.W.mg_of X G aCSystem⟩
  have NSystem : NASystem K CSystem := ⟨nSystemstates, nSystemstart, nSystemvariables, nSystemchannels, nSystemrules, nSystembad⟩
  have F14 := fun_mk (st := s__law_draws) l14 c14 k14
  have b14 := F14.binds (ps := ["_law_script", "_law_count"]) fun _ _ _ _ _ _ us hl => match us, hl with | [_, _], _ => rfl
  have D_law_draws : DefAt K mg "_law_draws" s__law_draws ["_law_script", "_law_count"] _ _ := ⟨F14, b14, PySem.W.mg_of X G a14⟩
  have F15 := fun_mk (st := s__law_take) l15 c15 k15
  have b15 := F15.binds (ps := ["_law_draws_here", "_law_limit"]) fun _ _ _ _ _ _ us hl => match us, hl with | [_, _], _ => rfl
  have D_law_take : DefAt K mg "_law_take" s__law_take ["_law_draws_here", "_law_limit"] _ _ := ⟨F15, b15, PySem.W.mg_of X G a15⟩
  have F16 := fun_mk (st := s__law_target) l16 c16 k16
  have b16 := F16.binds (ps := ["_law_draws_here", "_law_states"]) fun _ _ _ _ _ _ us hl => match us, hl with | [_, _], _ => rfl
  have D_law_target : DefAt K mg "_law_target" s__law_target ["_law_draws_here", "_law_states"] _ _ := ⟨F16, b16, PySem.W.mg_of X G a16⟩
  have F17 := fun_mk (st := s__law_values) l17 c17 k17
  have b17 := F17.binds (ps := ["_law_draws_here", "_law_pairs", "_law_share"]) fun _ _ _ _ _ _ us hl => match us, hl with | [_, _, _], _ => rfl
  have D_law_values : DefAt K mg "_law_values" s__law_values ["_law_draws_here", "_law_pairs", "_law_share"] _ _ := ⟨F17, b17, PySem.W.mg_of X G a17⟩
  have F18 := fun_mk (st := s__law_rule) l18 c18 k18
  have b18 := F18.binds (ps := ["_law_draws_here", "_law_name", "_law_states", "_law_variables", "_law_channels"]) fun _ _ _ _ _ _ us hl => match us, hl with | [_, _, _, _, _], _ => rfl
  have D_law_rule : DefAt K mg "_law_rule" s__law_rule ["_law_draws_here", "_law_name", "_law_states", "_law_variables", "_law_channels"] _ _ := ⟨F18, b18, PySem.W.mg_of X G a18⟩
  have F19 := fun_mk (st := s__law_pattern) l19 c19 k19
  have b19 := F19.binds (ps := ["_law_draws_here", "_law_states", "_law_variables"]) fun _ _ _ _ _ _ us hl => match us, hl with | [_, _, _], _ => rfl
  have D_law_pattern : DefAt K mg "_law_pattern" s__law_pattern ["_law_draws_here", "_law_states", "_law_variables"] _ _ := ⟨F19, b19, PySem.W.mg_of X G a19⟩
  have F20 := fun_mk (st := s__law_system) l20 c20 k20
  have b20 := F20.binds (ps := ["_law_draws_here", "_law_most", "_law_mail"]) fun _ _ _ _ _ _ us hl => match us, hl with | [_, _, _], _ => rfl
  have D_law_system : DefAt K mg "_law_system" s__law_system ["_law_draws_here", "_law_most", "_law_mail"] _ _ := ⟨F20, b20, PySem.W.mg_of X G a20⟩
  have F21 := fun_mk (st := s__law_made) l21 c21 k21
  have b21 := F21.binds (ps := ["_law_parts"]) fun _ _ _ _ _ _ us hl => match us, hl with | [_], _ => rfl
  have D_law_made : DefAt K mg "_law_made" s__law_made ["_law_parts"] _ _ := ⟨F21, b21, PySem.W.mg_of X G a21⟩
  have F22 := fun_mk (st := s__law_outcome) l22 c22 k22
  have b22 := F22.binds (ps := ["_law_parts"]) fun _ _ _ _ _ _ us hl => match us, hl with | [_], _ => rfl
  have D_law_outcome : DefAt K mg "_law_outcome" s__law_outcome ["_law_parts"] _ _ := ⟨F22, b22, PySem.W.mg_of X G a22⟩
  have F23 := fun_mk (st := s__law_spoilt_rule) l23 c23 k23
  have b23 := F23.binds (ps := ["_law_draws_here", "_law_rule_here", "_law_states"]) fun _ _ _ _ _ _ us hl => match us, hl with | [_, _, _], _ => rfl
  have D_law_spoilt_rule : DefAt K mg "_law_spoilt_rule" s__law_spoilt_rule ["_law_draws_here", "_law_rule_here", "_law_states"] _ _ := ⟨F23, b23, PySem.W.mg_of X G a23⟩
  have F24 := fun_mk (st := s__law_spoilt_pattern) l24 c24 k24
  have b24 := F24.binds (ps := ["_law_draws_here", "_law_states"]) fun _ _ _ _ _ _ us hl => match us, hl with | [_, _], _ => rfl
  have D_law_spoilt_pattern : DefAt K mg "_law_spoilt_pattern" s__law_spoilt_pattern ["_law_draws_here", "_law_states"] _ _ := ⟨F24, b24, PySem.W.mg_of X G a24⟩
  have F25 := fun_mk (st := s__law_spoilt) l25 c25 k25
  have b25 := F25.binds (ps := ["_law_draws_here", "_law_parts"]) fun _ _ _ _ _ _ us hl => match us, hl with | [_, _], _ => rfl
  have D_law_spoilt : DefAt K mg "_law_spoilt" s__law_spoilt ["_law_draws_here", "_law_parts"] _ _ := ⟨F25, b25, PySem.W.mg_of X G a25⟩
  have F26 := fun_mk (st := s__law_is_kept) l26 c26 k26
  have b26 := F26.binds (ps := ["_law_actual", "_law_expected"]) fun _ _ _ _ _ _ us hl => match us, hl with | [_, _], _ => rfl
  have D_law_is_kept : DefAt K mg "_law_is_kept" s__law_is_kept ["_law_actual", "_law_expected"] _ _ := ⟨F26, b26, PySem.W.mg_of X G a26⟩
  have F27 := fun_mk (st := s__law_is_rule) l27 c27 k27
  have b27 := F27.binds (ps := ["_law_actual", "_law_rule_here"]) fun _ _ _ _ _ _ us hl => match us, hl with | [_, _], _ => rfl
  have D_law_is_rule : DefAt K mg "_law_is_rule" s__law_is_rule ["_law_actual", "_law_rule_here"] _ _ := ⟨F27, b27, PySem.W.mg_of X G a27⟩
  have F28 := fun_mk (st := s__law_is_system) l28 c28 k28
  have b28 := F28.binds (ps := ["_law_found", "_law_parts"]) fun _ _ _ _ _ _ us hl => match us, hl with | [_, _], _ => rfl
  have D_law_is_system : DefAt K mg "_law_is_system" s__law_is_system ["_law_found", "_law_parts"] _ _ := ⟨F28, b28, PySem.W.mg_of X G a28⟩
  have F29 := fun_mk (st := s_law) l29 c29 k29
  have b29 := F29.binds (ps := ["_law_script"]) fun _ _ _ _ _ _ us hl => match us, hl with | [_], _ => rfl
  have Dlaw : DefAt K mg "law" s_law ["_law_script"] _ _ := ⟨F29, b29, PySem.W.mg_of X G a29⟩
  have X_InvalidProtocol : ExTx K mg "InvalidProtocol" CInvalidProtocol := ⟨PySem.W.mg_of X G aCInvalidProtocol, exInvalidProtocol, kcInvalidProtocol, ebInvalidProtocol, tyInvalidProtocol, exm_me ebInvalidProtocol icInvalidProtocol tyInvalidProtocol seInvalidProtocol⟩
  have U : Uses K mg := ⟨⟨_, PySem.W.mg_of X G zDIGITS⟩, ⟨_, PySem.W.mg_of X G zGONE⟩, ⟨_, PySem.W.mg_of X G zLOWER⟩, ⟨_, _, _, _, PySem.W.mg_of X G zRESERVED, lkRESERVED, rfl, rfl, Nat.le_trans (show 8 ≤ 1000000 by decide) big_line, .cons ⟨_, rfl⟩ (.cons ⟨_, rfl⟩ (.cons ⟨_, rfl⟩ (.cons ⟨_, rfl⟩ (.cons ⟨_, rfl⟩ (.cons ⟨_, rfl⟩ (.cons ⟨_, rfl⟩ (.cons ⟨_, rfl⟩ (.nil))))))))⟩, PySem.W.mg_none_of X G zbool, PySem.W.mg_none_of X G zint, PySem.W.mg_none_of X G zisinstance, PySem.W.mg_none_of X G zlen, PySem.W.mg_none_of X G zlist, PySem.W.mg_none_of X G zrange, PySem.W.mg_none_of X G zset, PySem.W.mg_none_of X G zstr, PySem.W.mg_none_of X G ztuple⟩
  refine ⟨PySem.W.fnOf "law" "law" (defArgs s_law) (defBody s_law) (defScope s_law) .none kV29 dc29 pm29 an29 cd29 ct29, fun s v => .of_eq rfl, fun base _ _ => ?_⟩
  have Gis_name := ok_is_name (P := l.prog) (w := w) (base := base) Dis_name U 
  have Gpairs_of := ok_pairs_of (P := l.prog) (w := w) (base := base) Dpairs_of U 
  have Gpairs_of_n := ok_pairs_of_n (P := l.prog) (w := w) (base := base) Dpairs_of U 
  have IRule := ok_Rule (P := l.prog) (w := w) (base := base) ORule NRule U Dpairs_of Gpairs_of
  have Gare_different := ok_are_different (P := l.prog) (w := w) (base := base) Dare_different U 
  have Gare_names := ok_are_names (P := l.prog) (w := w) (base := base) Dare_names U Dare_different Gare_different Dis_name Gis_name
  have Gright_moves := ok_right_moves (P := l.prog) (w := w) (base := base) Dright_moves U 
  have Gright_values := ok_right_values (P := l.prog) (w := w) (base := base) Dright_values U Dare_different Gare_different
  have Gright_values_l := ok_right_values_l (P := l.prog) (w := w) (base := base) Dright_values U Dare_different Gare_different
  have Gright_states := ok_right_states (P := l.prog) (w := w) (base := base) Dright_states U Dare_names Gare_names
  have Gright_variable := ok_right_variable (P := l.prog) (w := w) (base := base) Dright_variable U Dare_names Gare_names Dis_name Gis_name
  have Gright_channel := ok_right_channel (P := l.prog) (w := w) (base := base) Dright_channel U Dare_names Gare_names Dis_name Gis_name
  have Gright_rule := ok_right_rule (P := l.prog) (w := w) (base := base) Dright_rule U ORule NRule IRule Dare_different Gare_different Dis_name Gis_name Dright_moves Gright_moves Dright_values Gright_values
  have Gright_pattern := ok_right_pattern (P := l.prog) (w := w) (base := base) Dright_pattern U Dare_different Gare_different Dright_values Gright_values_l
  have ISystem := ok_System (P := l.prog) (w := w) (base := base) OSystem NSystem U ORule NRule Dpairs_of Gpairs_of Gpairs_of_n Dright_channel Gright_channel Dright_pattern Gright_pattern Dright_rule Gright_rule Dright_states Gright_states Dright_variable Gright_variable X_InvalidProtocol
  have G_law_draws := ok__law_draws (P := l.prog) (w := w) (base := base) D_law_draws U 
  have G_law_take := ok__law_take (P := l.prog) (w := w) (base := base) D_law_take U 
  have G_law_target := ok__law_target (P := l.prog) (w := w) (base := base) D_law_target U D_law_take G_law_take
  have G_law_values := ok__law_values (P := l.prog) (w := w) (base := base) D_law_values U D_law_take G_law_take
  have G_law_rule := ok__law_rule (P := l.prog) (w := w) (base := base) D_law_rule U D_law_take G_law_take D_law_target G_law_target D_law_values G_law_values
  have G_law_pattern := ok__law_pattern (P := l.prog) (w := w) (base := base) D_law_pattern U D_law_take G_law_take D_law_values G_law_values
  have G_law_system := ok__law_system (P := l.prog) (w := w) (base := base) D_law_system U D_law_pattern G_law_pattern D_law_rule G_law_rule D_law_take G_law_take
  have G_law_made := ok__law_made (P := l.prog) (w := w) (base := base) D_law_made U ORule NRule IRule OSystem NSystem ISystem
  have G_law_outcome := ok__law_outcome (P := l.prog) (w := w) (base := base) D_law_outcome U ORule NRule OSystem NSystem D_law_made G_law_made X_InvalidProtocol
  have G_law_spoilt_rule := ok__law_spoilt_rule (P := l.prog) (w := w) (base := base) D_law_spoilt_rule U D_law_take G_law_take
  have G_law_spoilt_pattern := ok__law_spoilt_pattern (P := l.prog) (w := w) (base := base) D_law_spoilt_pattern U D_law_take G_law_take
  have G_law_spoilt := ok__law_spoilt (P := l.prog) (w := w) (base := base) D_law_spoilt U D_law_spoilt_pattern G_law_spoilt_pattern D_law_spoilt_rule G_law_spoilt_rule D_law_take G_law_take
  have G_law_is_kept := ok__law_is_kept (P := l.prog) (w := w) (base := base) D_law_is_kept U 
  have G_law_is_rule := ok__law_is_rule (P := l.prog) (w := w) (base := base) D_law_is_rule U ORule NRule IRule D_law_is_kept G_law_is_kept
  have G_law_is_system := ok__law_is_system (P := l.prog) (w := w) (base := base) D_law_is_system U ORule NRule OSystem NSystem ISystem D_law_is_rule G_law_is_rule
  have Glaw := ok_law (P := l.prog) (w := w) (base := base) Dlaw U ORule NRule OSystem NSystem D_law_draws G_law_draws D_law_is_system G_law_is_system D_law_outcome G_law_outcome D_law_spoilt G_law_spoilt D_law_system G_law_system D_law_take G_law_take Dis_name Gis_name
  exact Glaw.imp fun vs H Q E h => spF_weak h
theorem all2_ints {F : Hp} : ∀ ns : List Int, All2 (tInt.R F) (ns.map V.int) ns
  | [] => trivial
  | _ :: ns => ⟨rfl, all2_ints ns⟩
theorem walk {l : PySem.W.OpenLaw} {q : Program} {loose : List Str} {XP : (Str → Option Value) → Heap → Prop} {YP : World → Heap → Prop} {d : DefRec} {K : Params → PySem.W.Frag} (hn : l.most = some 63) (hdf : d.params.defaults = [])
    (hY : ∀ (w : World) (h : Heap), YP w h → (K w.params).In h)
    (F : ∀ (w : World) (mg : Str → Option Value) (fa : Addr) (h : Heap), (K w.params).In h → h.Ns mainGlobals mg → mg d.name = some (.ref fa) →
      ∃ fd : FuncData, (∀ (s : Shared) (u : Value), BindsTo s fd ⟨[u], []⟩ [("_law_script", u)]) ∧ ∀ base : Heap, (K w.params).In base → base.Ns mainGlobals mg → FnOk l.prog w (K w.params) mg base (L2.CX l.prog w) 8 fa fd ["_law_script"] (spP XR0 (acons (fz (tScr (K w.params) tInt)) anil) (fz tBool) m_law)) :
    PySem.W.WalkO q loose XP YP l.row.toRowW d [] (fun f vs => PySem.call f vs) :=
  L2.walk_of (n := 63) (k := 8) (x := "_law_script") (CX := fun w => L2.CX l.prog w) (sp := fun w => spP XR0 (acons (fz (tScr (K w.params) tInt)) anil) (fz tBool) m_law) hn (by decide) hdf ⟨rfl, by decide, by decide⟩ hY F
    (fun w H a ns hl _ hS => ⟨(), (ns, ()), H, [], ⟨.ref a, [], [], [], rfl, rfl, ⟨rfl, a, ns.map V.int, rfl, hS, all2_ints ns⟩, rfl, rfl⟩, holds_nil (Same.refl _), by
      rw [law_true ns hl]
      exact fun v F' H' A' r _ => r.2⟩)
    fun w H s e s' h => by
      obtain ⟨_, _, _, _, _, _, _, _, _, _, _, _, _, _, _, w'⟩ := h
end W

open PySem PySem.W PyProof.Rows in
set_option maxRecDepth 100000 in
set_option maxHeartbeats 0 in
theorem PySem.Challenge.cw_covernets_k45_systems_holds : PySem.Challenge.rw_covernets_k45_systems.Holds := by
  w_on; o_law; k_head; (case hw => w_witness2)
  k_fill
  refine W.walk (l := PySem.Challenge.rw_covernets_k45_systems) rfl rfl (fun w h Y => PySem.W.kIn_of Y) ?F
  case F =>
    intro w mg fa h KX G hmg
    refine' W.all_mk KX G hmg ?a1 ?l1 ?c1 ?k1 ?a2 ?l2 ?c2 ?k2 ?aCRule ?a3 ?i3 ?l3 ?c3 ?k3 ?pgRule ?hdRule ?poRule ?saRule ?mkRule ?kcRule ?nRulename ?nRuleactors ?nRuleeveryone ?nRuleborn ?nRuleconditions ?nRuleeffects ?nRulehears ?nRulesends ?a4 ?l4 ?c4 ?k4 ?a5 ?l5 ?c5 ?k5 ?a6 ?l6 ?c6 ?k6 ?a7 ?l7 ?c7 ?k7 ?a8 ?l8 ?c8 ?k8 ?a9 ?l9 ?c9 ?k9 ?a10 ?l10 ?c10 ?k10 ?a11 ?l11 ?c11 ?k11 ?a12 ?l12 ?c12 ?k12 ?aCSystem ?a13 ?i13 ?l13 ?c13 ?k13 ?pgSystem ?hdSystem ?poSystem ?saSystem ?mkSystem ?kcSystem ?nSystemstates ?nSystemstart ?nSystemvariables ?nSystemchannels ?nSystemrules ?nSystembad ?a14 ?l14 ?c14 ?k14 ?a15 ?l15 ?c15 ?k15 ?a16 ?l16 ?c16 ?k16 ?a17 ?l17 ?c17 ?k17 ?a18 ?l18 ?c18 ?k18 ?a19 ?l19 ?c19 ?k19 ?a20 ?l20 ?c20 ?k20 ?a21 ?l21 ?c21 ?k21 ?a22 ?l22 ?c22 ?k22 ?a23 ?l23 ?c23 ?k23 ?a24 ?l24 ?c24 ?k24 ?a25 ?l25 ?c25 ?k25 ?a26 ?l26 ?c26 ?k26 ?a27 ?l27 ?c27 ?k27 ?a28 ?l28 ?c28 ?k28 ?a29 ?l29 ?c29 ?k29 ?zDIGITS ?zGONE ?zLOWER ?lkRESERVED ?zRESERVED ?zbool ?zint ?zisinstance ?zlen ?zlist ?zrange ?zset ?zstr ?ztuple ?aCInvalidProtocol ?kcInvalidProtocol ?ebInvalidProtocol ?tyInvalidProtocol ?icInvalidProtocol ?seInvalidProtocol ?exInvalidProtocol
    (case a1 => k_is)
    (case l1 => k_is)
    (case c1 => k_is)
    (case k1 => k_is)
    (case a2 => k_is)
    (case l2 => k_is)
    (case c2 => k_is)
    (case k2 => k_is)
    (case aCRule => k_is)
    (case a3 => k_is)
    (case i3 => k_is)
    (case l3 => k_is)
    (case c3 => k_is)
    (case k3 => k_is)
    (case pgRule => k_is)
    (case hdRule => k_is)
    (case poRule => k_is)
    (case saRule => k_is)
    (case mkRule => k_is)
    (case kcRule => k_is)
    (case nRulename => k_is)
    (case nRuleactors => k_is)
    (case nRuleeveryone => k_is)
    (case nRuleborn => k_is)
    (case nRuleconditions => k_is)
    (case nRuleeffects => k_is)
    (case nRulehears => k_is)
    (case nRulesends => k_is)
    (case a4 => k_is)
    (case l4 => k_is)
    (case c4 => k_is)
    (case k4 => k_is)
    (case a5 => k_is)
    (case l5 => k_is)
    (case c5 => k_is)
    (case k5 => k_is)
    (case a6 => k_is)
    (case l6 => k_is)
    (case c6 => k_is)
    (case k6 => k_is)
    (case a7 => k_is)
    (case l7 => k_is)
    (case c7 => k_is)
    (case k7 => k_is)
    (case a8 => k_is)
    (case l8 => k_is)
    (case c8 => k_is)
    (case k8 => k_is)
    (case a9 => k_is)
    (case l9 => k_is)
    (case c9 => k_is)
    (case k9 => k_is)
    (case a10 => k_is)
    (case l10 => k_is)
    (case c10 => k_is)
    (case k10 => k_is)
    (case a11 => k_is)
    (case l11 => k_is)
    (case c11 => k_is)
    (case k11 => k_is)
    (case a12 => k_is)
    (case l12 => k_is)
    (case c12 => k_is)
    (case k12 => k_is)
    (case aCSystem => k_is)
    (case a13 => k_is)
    (case i13 => k_is)
    (case l13 => k_is)
    (case c13 => k_is)
    (case k13 => k_is)
    (case pgSystem => k_is)
    (case hdSystem => k_is)
    (case poSystem => k_is)
    (case saSystem => k_is)
    (case mkSystem => k_is)
    (case kcSystem => k_is)
    (case nSystemstates => k_is)
    (case nSystemstart => k_is)
    (case nSystemvariables => k_is)
    (case nSystemchannels => k_is)
    (case nSystemrules => k_is)
    (case nSystembad => k_is)
    (case a14 => k_is)
    (case l14 => k_is)
    (case c14 => k_is)
    (case k14 => k_is)
    (case a15 => k_is)
    (case l15 => k_is)
    (case c15 => k_is)
    (case k15 => k_is)
    (case a16 => k_is)
    (case l16 => k_is)
    (case c16 => k_is)
    (case k16 => k_is)
    (case a17 => k_is)
    (case l17 => k_is)
    (case c17 => k_is)
    (case k17 => k_is)
    (case a18 => k_is)
    (case l18 => k_is)
    (case c18 => k_is)
    (case k18 => k_is)
    (case a19 => k_is)
    (case l19 => k_is)
    (case c19 => k_is)
    (case k19 => k_is)
    (case a20 => k_is)
    (case l20 => k_is)
    (case c20 => k_is)
    (case k20 => k_is)
    (case a21 => k_is)
    (case l21 => k_is)
    (case c21 => k_is)
    (case k21 => k_is)
    (case a22 => k_is)
    (case l22 => k_is)
    (case c22 => k_is)
    (case k22 => k_is)
    (case a23 => k_is)
    (case l23 => k_is)
    (case c23 => k_is)
    (case k23 => k_is)
    (case a24 => k_is)
    (case l24 => k_is)
    (case c24 => k_is)
    (case k24 => k_is)
    (case a25 => k_is)
    (case l25 => k_is)
    (case c25 => k_is)
    (case k25 => k_is)
    (case a26 => k_is)
    (case l26 => k_is)
    (case c26 => k_is)
    (case k26 => k_is)
    (case a27 => k_is)
    (case l27 => k_is)
    (case c27 => k_is)
    (case k27 => k_is)
    (case a28 => k_is)
    (case l28 => k_is)
    (case c28 => k_is)
    (case k28 => k_is)
    (case a29 => k_is)
    (case l29 => k_is)
    (case c29 => k_is)
    (case k29 => k_is)
    (case zDIGITS => k_is)
    (case zGONE => k_is)
    (case zLOWER => k_is)
    (case lkRESERVED => k_is)
    (case zRESERVED => k_is)
    (case zbool => k_is)
    (case zint => k_is)
    (case zisinstance => k_is)
    (case zlen => k_is)
    (case zlist => k_is)
    (case zrange => k_is)
    (case zset => k_is)
    (case zstr => k_is)
    (case ztuple => k_is)
    (case aCInvalidProtocol => k_is)
    (case kcInvalidProtocol => k_is)
    (case ebInvalidProtocol => k_is)
    (case tyInvalidProtocol => k_is)
    (case icInvalidProtocol => k_is)
    (case seInvalidProtocol => k_is)
    (case exInvalidProtocol => k_exc)
