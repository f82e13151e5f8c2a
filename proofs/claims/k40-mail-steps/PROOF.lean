import PyProof.Rows.All
import Wide.All
import OpenK.AllK
import Wide.FinOn
import HandS.ForMost
import HandS.ForExc
import HandS.IsInst
import HandS.CallSlots
import KE.DatumOrd
import HandS.TupAny
import HandS.TupMul
import HandS.ExcInit
import HandS.ExcField
import HandS.TryOnly
import HandS.Zip
import HandS.Conv
import PySem.Challenge.RW_covernets_k40_mail_steps
set_option Elab.async false
set_option linter.all false
set_option maxRecDepth 100000
set_option maxHeartbeats 4000000
/-! A typed layer over the hand layer: contexts of slots, frozen and owned data, mirrors. -/
namespace TC
open PySem PySem.Spec PyProof.Rows L2

abbrev St := L2.St
/-! ### results -/
structure Ex where
  cls : String
  val : Option Int
  deriving DecidableEq

inductive Res (α : Type) where
  | ok (a : α)
  | er (e : Ex)
  | bad

def Res.bind {α β : Type} : Res α → (α → Res β) → Res β
  | .ok a, k => k a
  | .er e, _ => .er e
  | .bad, _ => .bad
@[simp] theorem Res.bind_ok {α β : Type} (a : α) (k : α → Res β) : (Res.ok a).bind k = k a := rfl
@[simp] theorem Res.bind_er {α β : Type} (e : Ex) (k : α → Res β) : (Res.er e : Res α).bind k = .er e := rfl
@[simp] theorem Res.bind_bad {α β : Type} (k : α → Res β) : (Res.bad : Res α).bind k = .bad := rfl

inductive Out (S L ρ : Type) where
  | nx (s : S)
  | rt (r : ρ)
  | bk (l : L)
  | ct (l : L)
  | er (e : Ex)
  | bad

def Res.out {α S L ρ : Type} : Res α → (α → Out S L ρ) → Out S L ρ
  | .ok a, k => k a
  | .er e, _ => .er e
  | .bad, _ => .bad
@[simp] theorem Res.out_ok {α S L ρ : Type} (a : α) (k : α → Out S L ρ) : (Res.ok a).out k = k a := rfl
@[simp] theorem Res.out_er {α S L ρ : Type} (e : Ex) (k : α → Out S L ρ) : (Res.er e : Res α).out k = .er e := rfl
@[simp] theorem Res.out_bad {α S L ρ : Type} (k : α → Out S L ρ) : (Res.bad : Res α).out k = .bad := rfl

def Out.seq {S S' L ρ : Type} : Out S L ρ → (S → Out S' L ρ) → Out S' L ρ
  | .nx s, k => k s
  | .rt r, _ => .rt r
  | .bk l, _ => .bk l
  | .ct l, _ => .ct l
  | .er e, _ => .er e
  | .bad, _ => .bad
@[simp] theorem Out.seq_nx {S S' L ρ : Type} (s : S) (k : S → Out S' L ρ) : (Out.nx s : Out S L ρ).seq k = k s := rfl
@[simp] theorem Out.seq_rt {S S' L ρ : Type} (r : ρ) (k : S → Out S' L ρ) : (Out.rt r : Out S L ρ).seq k = .rt r := rfl
@[simp] theorem Out.seq_bk {S S' L ρ : Type} (l : L) (k : S → Out S' L ρ) : (Out.bk l : Out S L ρ).seq k = .bk l := rfl
@[simp] theorem Out.seq_ct {S S' L ρ : Type} (l : L) (k : S → Out S' L ρ) : (Out.ct l : Out S L ρ).seq k = .ct l := rfl
@[simp] theorem Out.seq_er {S S' L ρ : Type} (e : Ex) (k : S → Out S' L ρ) : (Out.er e : Out S L ρ).seq k = .er e := rfl
@[simp] theorem Out.seq_bad {S S' L ρ : Type} (k : S → Out S' L ρ) : (Out.bad : Out S L ρ).seq k = .bad := rfl

def Out.res {S L ρ : Type} (fall : S → Res ρ) : Out S L ρ → Res ρ
  | .nx s => fall s
  | .rt r => .ok r
  | .bk _ => .bad
  | .ct _ => .bad
  | .er e => .er e
  | .bad => .bad
@[simp] theorem Out.res_nx {S L ρ : Type} (fall : S → Res ρ) (s : S) : (Out.nx s : Out S L ρ).res fall = fall s := rfl
@[simp] theorem Out.res_rt {S L ρ : Type} (fall : S → Res ρ) (r : ρ) : (Out.rt r : Out S L ρ).res fall = .ok r := rfl
@[simp] theorem Out.res_er {S L ρ : Type} (fall : S → Res ρ) (e : Ex) : (Out.er e : Out S L ρ).res fall = .er e := rfl
@[simp] theorem Out.res_bad {S L ρ : Type} (fall : S → Res ρ) : (Out.bad : Out S L ρ).res fall = .bad := rfl

/-- a for loop over a list -/
def forM {ι L L' ρ : Type} (body : ι → L → Out L L ρ) : List ι → L → Out L L' ρ
  | [], l => .nx l
  | x :: xs, l => match body x l with
    | .nx l' => forM body xs l'
    | .ct l' => forM body xs l'
    | .bk l' => .nx l'
    | .rt r => .rt r
    | .er e => .er e
    | .bad => .bad
@[simp] theorem forM_nil {ι L L' ρ : Type} (body : ι → L → Out L L ρ) (l : L) : (forM body [] l : Out L L' ρ) = .nx l := rfl
theorem forM_cons {ι L L' ρ : Type} (body : ι → L → Out L L ρ) (x : ι) (xs : List ι) (l : L) : (forM body (x :: xs) l : Out L L' ρ) = match body x l with
    | .nx l' => forM body xs l'
    | .ct l' => forM body xs l'
    | .bk l' => .nx l'
    | .rt r => .rt r
    | .er e => .er e
    | .bad => .bad := rfl

/-- a while loop, n turns at most -/
def whileN {L L' ρ : Type} (c : L → Res (Bool × L)) (body : L → Out L L ρ) : Nat → L → Out L L' ρ
  | 0, _ => .bad
  | n + 1, l => match c l with
    | .ok (false, l') => .nx l'
    | .ok (true, l') => match body l' with
      | .nx l2 => whileN c body n l2
      | .ct l2 => whileN c body n l2
      | .bk l2 => .nx l2
      | .rt r => .rt r
      | .er e => .er e
      | .bad => .bad
    | .er e => .er e
    | .bad => .bad
open Classical in
noncomputable def whileM {L L' ρ : Type} (c : L → Res (Bool × L)) (body : L → Out L L ρ) (l : L) : Out L L' ρ :=
  if h : ∃ n, (whileN c body n l : Out L L' ρ) ≠ .bad then whileN c body h.choose l else .bad
theorem whileN_mono {L L' ρ : Type} {c : L → Res (Bool × L)} {body : L → Out L L ρ} : ∀ {n m : Nat} {l : L}, n ≤ m → (whileN c body n l : Out L L' ρ) ≠ .bad → (whileN c body m l : Out L L' ρ) = whileN c body n l
  | 0, _, _, _, h => absurd rfl h
  | n + 1, 0, _, h, _ => absurd h (by omega)
  | n + 1, m + 1, l, hle, h => by
    unfold whileN at h ⊢
    cases e : c l with
    | bad => rfl
    | er x => rfl
    | ok p =>
      obtain ⟨b, l'⟩ := p
      cases b with
      | false => rfl
      | true =>
        simp only [e] at h ⊢
        cases e2 : body l' with
        | nx l2 => simp only [e2] at h ⊢; exact whileN_mono (by omega) h
        | ct l2 => simp only [e2] at h ⊢; exact whileN_mono (by omega) h
        | bk _ => rfl
        | rt _ => rfl
        | er _ => rfl
        | bad => rfl
theorem whileM_eq {L L' ρ : Type} {c : L → Res (Bool × L)} {body : L → Out L L ρ} {n : Nat} {l : L} (h : (whileN c body n l : Out L L' ρ) ≠ .bad) : (whileM c body l : Out L L' ρ) = whileN c body n l := by
  have hx : ∃ n, (whileN c body n l : Out L L' ρ) ≠ .bad := ⟨n, h⟩
  unfold whileM
  rw [dif_pos hx]
  rcases Nat.le_total n hx.choose with q | q
  · exact whileN_mono q h
  · exact (whileN_mono q hx.choose_spec).symm
theorem whileM_exists {L L' ρ : Type} {c : L → Res (Bool × L)} {body : L → Out L L ρ} {l : L} (h : (whileM c body l : Out L L' ρ) ≠ .bad) : ∃ n, (whileN c body n l : Out L L' ρ) ≠ .bad ∧ (whileM c body l : Out L L' ρ) = whileN c body n l := by
  unfold whileM at h
  split at h
  · rename_i hx
    exact ⟨_, h, whileM_eq h⟩
  · exact absurd rfl h
/-- one turn -/
theorem whileM_step {L L' ρ : Type} (c : L → Res (Bool × L)) (body : L → Out L L ρ) (l : L) : (whileM c body l : Out L L' ρ) = match c l with
    | .ok (false, l') => .nx l'
    | .ok (true, l') => match body l' with
      | .nx l2 => whileM c body l2
      | .ct l2 => whileM c body l2
      | .bk l2 => .nx l2
      | .rt r => .rt r
      | .er e => .er e
      | .bad => .bad
    | .er e => .er e
    | .bad => .bad := by
  have one : ∀ n, (whileN c body (n + 1) l : Out L L' ρ) = match c l with
    | .ok (false, l') => .nx l'
    | .ok (true, l') => match body l' with
      | .nx l2 => whileN c body n l2
      | .ct l2 => whileN c body n l2
      | .bk l2 => .nx l2
      | .rt r => .rt r
      | .er e => .er e
      | .bad => .bad
    | .er e => .er e
    | .bad => .bad := fun n => rfl
  have lift : ∀ l2 : L, (∀ n, (whileN c body (n + 1) l : Out L L' ρ) = whileN c body n l2) → (whileM c body l : Out L L' ρ) = whileM c body l2 := fun l2 h => by
    by_cases hx : (whileM c body l2 : Out L L' ρ) = .bad
    · rw [hx]
      by_cases hy : (whileM c body l : Out L L' ρ) = .bad
      · exact hy
      · obtain ⟨n, hn, e⟩ := whileM_exists hy
        cases n with
        | zero => exact absurd rfl hn
        | succ n =>
          rw [h n] at hn
          rw [whileM_eq hn] at hx
          exact absurd hx hn
    · obtain ⟨n, hn, e⟩ := whileM_exists hx
      rw [e, ← h n, whileM_eq]
      rw [h n]; exact hn
  cases e : c l with
  | bad =>
    by_cases hy : (whileM c body l : Out L L' ρ) = .bad
    · exact hy
    · obtain ⟨n, hn, e'⟩ := whileM_exists hy
      cases n with
      | zero => exact absurd rfl hn
      | succ n => rw [one n, e] at hn; exact absurd rfl hn
  | er x =>
    have q : (whileN c body 1 l : Out L L' ρ) = .er x := by rw [one 0, e]
    rw [whileM_eq (n := 1) (by rw [q]; intro z; cases z), q]
  | ok p =>
    obtain ⟨b, l'⟩ := p
    cases b with
    | false =>
      have q : (whileN c body 1 l : Out L L' ρ) = .nx l' := by rw [one 0, e]
      rw [whileM_eq (n := 1) (by rw [q]; intro z; cases z), q]
    | true =>
      cases e2 : body l' with
      | nx l2 => simp only [e2]; exact lift l2 fun n => by rw [one n, e]; simp only [e2]
      | ct l2 => simp only [e2]; exact lift l2 fun n => by rw [one n, e]; simp only [e2]
      | bk l2 =>
        have q : (whileN c body 1 l : Out L L' ρ) = .nx l2 := by rw [one 0, e]; simp only [e2]
        simp only [e2]; rw [whileM_eq (n := 1) (by rw [q]; intro z; cases z), q]
      | rt l2 =>
        have q : (whileN c body 1 l : Out L L' ρ) = .rt l2 := by rw [one 0, e]; simp only [e2]
        simp only [e2]; rw [whileM_eq (n := 1) (by rw [q]; intro z; cases z), q]
      | er l2 =>
        have q : (whileN c body 1 l : Out L L' ρ) = .er l2 := by rw [one 0, e]; simp only [e2]
        simp only [e2]; rw [whileM_eq (n := 1) (by rw [q]; intro z; cases z), q]
      | bad =>
        simp only [e2]
        by_cases hy : (whileM c body l : Out L L' ρ) = .bad
        · exact hy
        · obtain ⟨n, hn, e'⟩ := whileM_exists hy
          cases n with
          | zero => exact absurd rfl hn
          | succ n => rw [one n, e] at hn; simp only [e2] at hn; exact absurd rfl hn

/-- a comprehension -/
def compM {ι S β : Type} (body : ι → S → Res (Option β × S)) : List ι → S → Res (List β × S)
  | [], s => .ok ([], s)
  | x :: xs, s => match body x s with
    | .ok (y, s1) => match compM body xs s1 with
      | .ok (ys, s2) => .ok (match y with | some y => y :: ys | none => ys, s2)
      | .er e => .er e
      | .bad => .bad
    | .er e => .er e
    | .bad => .bad

/-! ### lists of values -/
def All2 {α : Type} (R : V → α → Prop) : List V → List α → Prop
  | [], [] => True
  | v :: vs, x :: xs => R v x ∧ All2 R vs xs
  | _, _ => False
section
variable {α β : Type} {R R' : V → α → Prop}
theorem All2.length : ∀ {vs : List V} {xs : List α}, All2 R vs xs → vs.length = xs.length
  | [], [], _ => rfl
  | _ :: _, _ :: _, h => congrArg (· + 1) (All2.length h.2)
  | [], _ :: _, h => h.elim
  | _ :: _, [], h => h.elim
theorem All2.imp (k : ∀ v x, R v x → R' v x) : ∀ {vs : List V} {xs : List α}, All2 R vs xs → All2 R' vs xs
  | [], [], _ => trivial
  | _ :: _, _ :: _, h => ⟨k _ _ h.1, All2.imp k h.2⟩
  | [], _ :: _, h => h.elim
  | _ :: _, [], h => h.elim
theorem All2.append : ∀ {vs ws : List V} {xs ys : List α}, All2 R vs xs → All2 R ws ys → All2 R (vs ++ ws) (xs ++ ys)
  | [], _, [], _, _, h => h
  | _ :: _, _, _ :: _, _, h, k => ⟨h.1, All2.append h.2 k⟩
  | [], _, _ :: _, _, h, _ => h.elim
  | _ :: _, _, [], _, h, _ => h.elim
theorem All2.get : ∀ {vs : List V} {xs : List α} {i : Nat} {x : α}, All2 R vs xs → xs[i]? = some x → ∃ v, vs[i]? = some v ∧ R v x
  | [], [], _, _, _, e => by simp at e
  | v :: _, _ :: _, 0, _, h, e => ⟨v, rfl, by simp at e; subst e; exact h.1⟩
  | _ :: vs, _ :: xs, i + 1, x, h, e => by
    obtain ⟨w, a, b⟩ := All2.get (vs := vs) (xs := xs) (i := i) (x := x) h.2 (by simpa using e)
    exact ⟨w, by simpa using a, b⟩
  | [], _ :: _, _, _, h, _ => h.elim
  | _ :: _, [], _, _, h, _ => h.elim
theorem All2.set {v : V} {x : α} (r : R v x) : ∀ {vs : List V} {xs : List α} (i : Nat), All2 R vs xs → All2 R (vs.set i v) (xs.set i x)
  | [], [], _, h => h
  | _ :: _, _ :: _, 0, h => ⟨r, h.2⟩
  | _ :: _, _ :: _, i + 1, h => ⟨h.1, All2.set r i h.2⟩
  | [], _ :: _, _, h => h.elim
  | _ :: _, [], _, h => h.elim
theorem All2.reverse : ∀ {vs : List V} {xs : List α}, All2 R vs xs → All2 R vs.reverse xs.reverse
  | [], [], _ => trivial
  | v :: vs, x :: xs, h => by
    rw [List.reverse_cons, List.reverse_cons]
    exact All2.append (All2.reverse h.2) ⟨h.1, trivial⟩
  | [], _ :: _, h => h.elim
  | _ :: _, [], h => h.elim
theorem All2.dropLast : ∀ {vs : List V} {xs : List α}, All2 R vs xs → All2 R vs.dropLast xs.dropLast
  | [], [], _ => trivial
  | [_], [_], _ => trivial
  | v :: v2 :: vs, x :: x2 :: xs, h => ⟨h.1, All2.dropLast (vs := v2 :: vs) (xs := x2 :: xs) h.2⟩
  | [], _ :: _, h => h.elim
  | _ :: _, [], h => h.elim
  | [_], _ :: _ :: _, h => h.2.elim
  | _ :: _ :: _, [_], h => h.2.elim
theorem All2.take : ∀ {vs : List V} {xs : List α} (n : Nat), All2 R vs xs → All2 R (vs.take n) (xs.take n)
  | _, _, 0, _ => by simp [All2]
  | [], [], n + 1, _ => trivial
  | _ :: _, _ :: _, n + 1, h => ⟨h.1, All2.take n h.2⟩
  | [], _ :: _, _ + 1, h => h.elim
  | _ :: _, [], _ + 1, h => h.elim
theorem All2.drop : ∀ {vs : List V} {xs : List α} (n : Nat), All2 R vs xs → All2 R (vs.drop n) (xs.drop n)
  | _, _, 0, h => h
  | [], [], n + 1, _ => trivial
  | _ :: _, _ :: _, n + 1, h => All2.drop n h.2
  | [], _ :: _, _ + 1, h => h.elim
  | _ :: _, [], _ + 1, h => h.elim
theorem All2.nil_iff : ∀ {vs : List V} {xs : List α}, All2 R vs xs → vs.isEmpty = xs.isEmpty
  | [], [], _ => rfl
  | _ :: _, _ :: _, _ => rfl
  | [], _ :: _, h => h.elim
  | _ :: _, [], h => h.elim
theorem All2.getD {vs : List V} {xs : List α} {i : Nat} (h : All2 R vs xs) (hi : i < xs.length) : ∃ v, vs[i]? = some v ∧ R v xs[i] :=
  h.get (List.getElem?_eq_getElem hi)
theorem All2.last {vs : List V} {xs : List α} {x : α} (h : All2 R vs xs) (e : xs.getLast? = some x) : ∃ v, vs[vs.length - 1]? = some v ∧ R v x := by
  rw [List.getLast?_eq_getElem?] at e
  rw [h.length]
  exact h.get e
end

/-! ### what is owned, what is frozen -/
abbrev Ow := List (Addr × HO)
def Ow.dom (A : Ow) : List Addr := A.map (·.1)

structure Holds (F H : Hp) (A : Ow) : Prop where
  fz : Same F H
  ow : ∀ p ∈ A, F p.1 = none ∧ H p.1 = some p.2
  nd : (A.map (·.1)).Nodup

structure Ext (F H : Hp) (A : Ow) (F' H' : Hp) (A' : Ow) : Prop where
  fz : Same F F'
  keep : ∀ p o, H p = some o → p ∉ A.map (·.1) → H' p = some o
  nofz : ∀ p, F p = none → H p ≠ none → p ∉ A.map (·.1) → F' p = none
  holds : Holds F' H' A'
  new : ∀ p ∈ A'.map (·.1), p ∈ A.map (·.1) ∨ H p = none

section
variable {F H F' H' F2 H2 : Hp} {A A' A1 A2 B L R : Ow} {p a : Addr} {o o' : HO}
theorem Holds.dom_some (h : Holds F H A) (m : p ∈ A.map (·.1)) : ∃ o, H p = some o ∧ F p = none := by
  obtain ⟨q, hq, rfl⟩ := List.mem_map.mp m
  exact ⟨q.2, (h.ow q hq).2, (h.ow q hq).1⟩
theorem Holds.sub (h : Holds F H A) (s : A'.Sublist A) : Holds F H A' :=
  ⟨h.fz, fun q hq => h.ow q (s.subset hq), h.nd.sublist (s.map _)⟩
theorem Holds.perm (h : Holds F H A) (s : A.Perm A') : Holds F H A' :=
  ⟨h.fz, fun q hq => h.ow q (s.mem_iff.mpr hq), (s.map _).nodup_iff.mp h.nd⟩
theorem Ext.refl (h : Holds F H A) : Ext F H A F H A := ⟨Same.refl F, fun _ _ e _ => e, fun _ e _ _ => e, h, fun _ m => .inl m⟩
theorem Ext.trans (e1 : Ext F H A F' H' A') (e2 : Ext F' H' A' F2 H2 A2) : Ext F H A F2 H2 A2 := by
  have out : ∀ p o, H p = some o → p ∉ A.map (·.1) → p ∉ A'.map (·.1) := fun p o e n m => by
    rcases e1.new p m with q | q
    · exact n q
    · rw [e] at q; cases q
  refine ⟨e1.fz.trans e2.fz, fun p o e n => e2.keep p o (e1.keep p o e n) (out p o e n), fun p e e' n => ?_, e2.holds, fun p m => ?_⟩
  · obtain ⟨o, eo⟩ := Option.ne_none_iff_exists'.mp e'
    exact e2.nofz p (e1.nofz p e e' n) (by rw [e1.keep p o eo n]; simp) (out p o eo n)
  · rcases e2.new p m with q | q
    · exact e1.new p q
    · by_cases hm : p ∈ A.map (·.1)
      · exact .inl hm
      · right
        cases e : H p with
        | none => rfl
        | some o => rw [e1.keep p o e hm] at q; cases q
theorem Ext.sub (e : Ext F H A F' H' A') (s : A2.Sublist A') : Ext F H A F' H' A2 :=
  ⟨e.fz, e.keep, e.nofz, e.holds.sub s, fun p m => e.new p ((s.map _).subset m)⟩
theorem Ext.perm (e : Ext F H A F' H' A') (s : A'.Perm A2) : Ext F H A F' H' A2 :=
  ⟨e.fz, e.keep, e.nofz, e.holds.perm s, fun p m => e.new p ((s.map _).mem_iff.mpr m)⟩
theorem Ext.permL (e : Ext F H A F' H' A') (s : A.Perm A2) : Ext F H A2 F' H' A' :=
  ⟨e.fz, fun p o q n => e.keep p o q fun m => n ((s.map _).mem_iff.mp m), fun p q q' n => e.nofz p q q' fun m => n ((s.map _).mem_iff.mp m), e.holds, fun p m => (e.new p m).imp (s.map _).mem_iff.mp id⟩
/-- what the step does not touch stays -/
theorem Ext.frame (h : Holds F H (A ++ B)) (e : Ext F H A F' H' A') : Ext F H (A ++ B) F' H' (A' ++ B) := by
  have nd := h.nd
  rw [List.map_append, List.nodup_append] at nd
  obtain ⟨_, nB, dj⟩ := nd
  have outB : ∀ p ∈ B.map (·.1), p ∉ A.map (·.1) := fun p m m' => dj p m' p m rfl
  refine ⟨e.fz, fun p o q n => e.keep p o q fun m => n (by rw [List.map_append]; exact List.mem_append_left _ m), fun p q q' n => e.nofz p q q' fun m => n (by rw [List.map_append]; exact List.mem_append_left _ m), ⟨e.holds.fz, fun q m => ?_, ?_⟩, fun p m => ?_⟩
  · rcases List.mem_append.mp m with m | m
    · exact e.holds.ow q m
    · have k := h.ow q (List.mem_append_right _ m)
      have n := outB q.1 (List.mem_map_of_mem (f := (·.1)) m)
      exact ⟨e.nofz q.1 k.1 (by rw [k.2]; simp) n, e.keep q.1 q.2 k.2 n⟩
  · rw [List.map_append, List.nodup_append]
    refine ⟨e.holds.nd, nB, fun x hx y hy z => ?_⟩
    subst z
    rcases e.new x hx with q | q
    · exact outB x hy q
    · obtain ⟨r, hr, rfl⟩ := List.mem_map.mp hy
      rw [(h.ow r (List.mem_append_right _ hr)).2] at q
      cases q
  · rw [List.map_append] at m ⊢
    rcases List.mem_append.mp m with m | m
    · exact (e.new p m).imp (List.mem_append_left _) id
    · exact .inl (List.mem_append_right _ m)
theorem perm_mid (L A R : Ow) : (L ++ (A ++ R)).Perm (A ++ (L ++ R)) := by
  rw [← List.append_assoc, ← List.append_assoc]
  exact (List.perm_append_comm).append_right R
theorem Ext.frameMid (h : Holds F H (L ++ (A ++ R))) (e : Ext F H A F' H' A') : Ext F H (L ++ (A ++ R)) F' H' (L ++ (A' ++ R)) :=
  ((Ext.frame (h.perm (perm_mid L A R)) e).perm (perm_mid L A' R).symm).permL (perm_mid L A R).symm
/-- a new object, frozen -/
theorem Ext.newF (h : Holds F H A) (n : H p = none) : Ext F H A (upd F p o) (upd H p o) A := by
  have nF : F p = none := h.fz.free n
  refine ⟨fun b u e => by rw [upd_ne (ne_of_none e nF)]; exact e, fun b u e _ => by rw [upd_ne (ne_of_none e n)]; exact e, fun b e e' _ => ?_, ⟨fun b u e => ?_, fun q m => ?_, h.nd⟩, fun b m => .inl m⟩
  · rw [upd_ne (fun z => by subst z; exact e' n)]; exact e
  · unfold upd at e ⊢
    split
    · rename_i hb; rw [if_pos hb] at e; exact e
    · rename_i hb; rw [if_neg hb] at e; exact h.fz b u e
  · have k := h.ow q m
    have : q.1 ≠ p := ne_of_none k.2 n
    exact ⟨by rw [upd_ne this]; exact k.1, by rw [upd_ne this]; exact k.2⟩
/-- a new object, owned -/
theorem Ext.newO (h : Holds F H A) (n : H p = none) : Ext F H A F (upd H p o) ((p, o) :: A) := by
  have nF : F p = none := h.fz.free n
  refine ⟨Same.refl F, fun b u e _ => by rw [upd_ne (ne_of_none e n)]; exact e, fun b e _ _ => e, ⟨fun b u e => ?_, fun q m => ?_, ?_⟩, fun b m => ?_⟩
  · rw [upd_ne (ne_of_none e nF)]; exact h.fz b u e
  · rcases List.mem_cons.mp m with m | m
    · subst m; exact ⟨nF, upd_same⟩
    · have k := h.ow q m
      exact ⟨k.1, by rw [upd_ne (ne_of_none k.2 n)]; exact k.2⟩
  · rw [List.map_cons, List.nodup_cons]
    refine ⟨fun m => ?_, h.nd⟩
    obtain ⟨u, e, _⟩ := h.dom_some m
    rw [n] at e; cases e
  · rw [List.map_cons] at m
    rcases List.mem_cons.mp m with m | m
    · subst m; exact .inr n
    · exact .inl m
/-- an owned object is changed -/
theorem Ext.write (h : Holds F H ((a, o) :: A)) : Ext F H ((a, o) :: A) F (upd H a o') ((a, o') :: A) := by
  have k := h.ow (a, o) List.mem_cons_self
  have nd := h.nd
  rw [List.map_cons, List.nodup_cons] at nd
  refine ⟨Same.refl F, fun b u e n => by rw [upd_ne (fun z => n (by rw [z]; exact List.mem_cons_self))]; exact e, fun b e _ _ => e, ⟨fun b u e => ?_, fun q m => ?_, by rw [List.map_cons, List.nodup_cons]; exact nd⟩, fun b m => .inl m⟩
  · rw [upd_ne (ne_of_none e k.1)]; exact h.fz b u e
  · rcases List.mem_cons.mp m with m | m
    · subst m; exact ⟨k.1, upd_same⟩
    · have k2 := h.ow q (List.mem_cons_of_mem _ m)
      have : q.1 ≠ a := fun z => nd.1 (by rw [← z]; exact List.mem_map_of_mem (f := (·.1)) m)
      exact ⟨k2.1, by rw [upd_ne this]; exact k2.2⟩
/-- an owned object is frozen -/
theorem Ext.freeze (h : Holds F H ((a, o) :: A)) : Ext F H ((a, o) :: A) (upd F a o) H A := by
  have k := h.ow (a, o) List.mem_cons_self
  have nd := h.nd
  rw [List.map_cons, List.nodup_cons] at nd
  refine ⟨fun b u e => by rw [upd_ne (ne_of_none e k.1)]; exact e, fun b u e _ => e, fun b e _ n => ?_, ⟨fun b u e => ?_, fun q m => ?_, nd.2⟩, fun b m => .inl (List.mem_cons_of_mem _ m)⟩
  · rw [upd_ne (fun z => n (by rw [z]; exact List.mem_cons_self))]; exact e
  · unfold upd at e
    split at e
    · rename_i hb; subst hb; rw [← e]; exact k.2
    · exact h.fz b u e
  · have k2 := h.ow q (List.mem_cons_of_mem _ m)
    have : q.1 ≠ a := fun z => nd.1 (by rw [← z]; exact List.mem_map_of_mem (f := (·.1)) m)
    exact ⟨by rw [upd_ne this]; exact k2.1, k2.2⟩
end

/-! ### relations -/
structure Rl (α : Type) where
  P : Hp → V → α → Ow → Prop
  mono : ∀ {F F' v x A}, P F v x A → Same F F' → P F' v x A
structure Ty (α : Type) where
  R : Hp → V → α → Prop
  mono : ∀ {F F' v x}, R F v x → Same F F' → R F' v x
def fz {α : Type} (T : Ty α) : Rl α := ⟨fun F v x A => A = [] ∧ T.R F v x, fun h s => ⟨h.1, T.mono h.2 s⟩⟩
theorem Ty.all {α : Type} (T : Ty α) {F F' : Hp} {vs : List V} {xs : List α} (h : All2 (T.R F) vs xs) (s : Same F F') : All2 (T.R F') vs xs := All2.imp (fun _ _ r => T.mono r s) h
theorem Same.seqT {K : PySem.W.Frag} {H H' : Hp} {a : Addr} {xs : List V} (e : Same H H') (h : SqT K H a xs) : SqT K H' a xs := by
  rcases h with (h | ⟨o, h⟩) | h
  · exact .inl (.inl (e _ _ h))
  · exact .inl (.inr ⟨o, e _ _ h⟩)
  · exact .inr h

def tInt : Ty Int := ⟨fun _ v x => v = .int x, fun h _ => h⟩
def tBool : Ty Bool := ⟨fun _ v x => v = .bl x, fun h _ => h⟩
def tStr : Ty Str := ⟨fun _ v x => v = .str x, fun h _ => h⟩
def tNone : Ty Unit := ⟨fun _ v _ => v = .non, fun h _ => h⟩
def tOpt {α : Type} (T : Ty α) : Ty (Option α) := ⟨fun F v x => match x with
  | none => v = .non
  | some y => v ≠ .non ∧ T.R F v y, fun {F F' v x} h s => by
    cases x with
    | none => exact h
    | some y => exact ⟨h.1, T.mono h.2 s⟩⟩
def tLst {α : Type} (T : Ty α) : Ty (List α) := ⟨fun F v x => ∃ a vs, v = .ref a ∧ F a = some (.lst vs) ∧ All2 (T.R F) vs x, fun ⟨a, vs, e, q, r⟩ s => ⟨a, vs, e, s _ _ q, T.all r s⟩⟩
section
variable (K : PySem.W.Frag) {α β γ : Type}
/-- a list of the caller's, read alone (the script) -/
def tScr (T : Ty α) : Ty (List α) := ⟨fun F v x => ∃ a vs, v = .ref a ∧ SqL K F a vs ∧ All2 (T.R F) vs x, fun ⟨a, vs, e, q, r⟩ s => ⟨a, vs, e, s.seq q, T.all r s⟩⟩
end
def tTup {α : Type} (T : Ty α) : Ty (List α) := ⟨fun F v x => ∃ a vs, v = .ref a ∧ F a = some (.tup vs) ∧ All2 (T.R F) vs x, fun ⟨a, vs, e, q, r⟩ s => ⟨a, vs, e, s _ _ q, T.all r s⟩⟩
/-- .. that may be a constant of the module -/
def tKTup {α : Type} (K : PySem.W.Frag) (T : Ty α) : Ty (List α) := ⟨fun F v x => ∃ a vs, v = .ref a ∧ SqT K F a vs ∧ All2 (T.R F) vs x, fun ⟨a, vs, e, q, r⟩ s => ⟨a, vs, e, Same.seqT s q, T.all r s⟩⟩
def tP2 {α β : Type} (T : Ty α) (U : Ty β) : Ty (α × β) := ⟨fun F v x => ∃ a v1 v2, v = .ref a ∧ F a = some (.tup [v1, v2]) ∧ T.R F v1 x.1 ∧ U.R F v2 x.2, fun ⟨a, v1, v2, e, q, r1, r2⟩ s => ⟨a, v1, v2, e, s _ _ q, T.mono r1 s, U.mono r2 s⟩⟩
def tP3 {α β γ : Type} (T : Ty α) (U : Ty β) (W : Ty γ) : Ty (α × β × γ) := ⟨fun F v x => ∃ a v1 v2 v3, v = .ref a ∧ F a = some (.tup [v1, v2, v3]) ∧ T.R F v1 x.1 ∧ U.R F v2 x.2.1 ∧ W.R F v3 x.2.2,
  fun ⟨a, v1, v2, v3, e, q, r1, r2, r3⟩ s => ⟨a, v1, v2, v3, e, s _ _ q, T.mono r1 s, U.mono r2 s, W.mono r3 s⟩⟩
/-- an owned list -/
def oL {α : Type} (T : Ty α) : Rl (List α) := ⟨fun F v x A => ∃ a vs, v = .ref a ∧ A = [(a, .lst vs)] ∧ All2 (T.R F) vs x, fun ⟨a, vs, e, q, r⟩ s => ⟨a, vs, e, q, T.all r s⟩⟩
/-- .. at a known place -/
def oLa {α : Type} (a : Addr) (T : Ty α) : Rl (List α) := ⟨fun F v x A => ∃ vs, v = .ref a ∧ A = [(a, .lst vs)] ∧ All2 (T.R F) vs x, fun ⟨vs, e, q, r⟩ s => ⟨vs, e, q, T.all r s⟩⟩

/-! ### slots, contexts -/
structure Sl (α : Type) where
  P : Hp → Option V → α → Ow → Prop
  mono : ∀ {F F' o x A}, P F o x A → Same F F' → P F' o x A
def sR {α : Type} (R : Rl α) : Sl α := ⟨fun F o x A => ∃ v, o = some v ∧ R.P F v x A, fun ⟨v, e, r⟩ s => ⟨v, e, R.mono r s⟩⟩
def sAny {α : Type} : Sl α := ⟨fun _ _ _ _ => True, fun h _ => h⟩
structure Ctx (S : Type) where
  P : S → Hp → St → Ow → Prop
  mono : ∀ {s F F' σ A}, P s F σ A → Same F F' → P s F' σ A
def gnil : Ctx Unit := ⟨fun _ _ σ A => σ = [] ∧ A = [], fun h _ => h⟩
def gcons {α β : Type} (sl : Sl α) (G : Ctx β) : Ctx (α × β) := ⟨fun s F σ A => ∃ o σ' B R, σ = o :: σ' ∧ A = B ++ R ∧ sl.P F o s.1 B ∧ G.P s.2 F σ' R,
  fun ⟨o, σ', B, R, e1, e2, h1, h2⟩ s => ⟨o, σ', B, R, e1, e2, sl.mono h1 s, G.mono h2 s⟩⟩
/-- slot i: what it holds, and what a store makes of the context -/
structure At {S S' α β : Type} (G : Ctx S) (i : Nat) (sl : Sl α) (get : S → α) (sl' : Sl β) (G' : Ctx S') (put : S → β → S') : Prop where
  at_ : ∀ s F σ A, G.P s F σ A → ∃ o L B R, σ[i]? = some o ∧ A = L ++ (B ++ R) ∧ sl.P F o (get s) B ∧ ∀ F' o' y B', Same F F' → sl'.P F' o' y B' → G'.P (put s y) F' (σ.set i o') (L ++ (B' ++ R))
@[irreducible] def gZ {α S : Type} : α × S → α := fun s => s.1
@[irreducible] def gS {α γ S : Type} (get : S → α) : γ × S → α := fun s => get s.2
@[irreducible] def pZ {α β S : Type} : α × S → β → β × S := fun s y => (y, s.2)
@[irreducible] def pS {β γ S S' : Type} (put : S → β → S') : γ × S → β → γ × S' := fun s y => (s.1, put s.2 y)
theorem gZ_eq {α S : Type} (x : α) (s : S) : gZ (x, s) = x := by unfold gZ; rfl
theorem gS_eq {α γ S : Type} (get : S → α) (x : γ) (s : S) : gS get (x, s) = get s := by unfold gS; rfl
theorem pZ_eq {α β S : Type} (x : α) (s : S) (y : β) : pZ (x, s) y = (y, s) := by unfold pZ; rfl
theorem pS_eq {β γ S S' : Type} (put : S → β → S') (x : γ) (s : S) (y : β) : pS put (x, s) y = (x, put s y) := by unfold pS; rfl
theorem At.z {α β S : Type} {sl : Sl α} {sl' : Sl β} {G : Ctx S} : At (gcons sl G) 0 sl gZ sl' (gcons sl' G) pZ := by
  unfold gZ pZ
  exact ⟨fun s F σ A ⟨o, σ', B, R, e1, e2, h1, h2⟩ => ⟨o, [], B, R, by rw [e1]; rfl, e2, h1, fun F' o' y B' sm h' => ⟨o', σ', B', R, by rw [e1]; rfl, rfl, h', G.mono h2 sm⟩⟩⟩
theorem At.s {α β γ S S' : Type} {sl : Sl α} {sl' : Sl β} {t : Sl γ} {G : Ctx S} {G' : Ctx S'} {i : Nat} {get : S → α} {put : S → β → S'} (h : At G i sl get sl' G' put) :
    At (gcons t G) (i + 1) sl (gS get) sl' (gcons t G') (pS put) := by
  unfold gS pS
  refine ⟨fun s F σ A ⟨o, σ', B, R, e1, e2, h1, h2⟩ => ?_⟩
  obtain ⟨o1, L1, B1, R1, q1, q2, q3, q4⟩ := h.at_ s.2 F σ' R h2
  refine ⟨o1, B ++ L1, B1, R1, by rw [e1]; simpa using q1, by rw [e2, q2, List.append_assoc], q3, fun F' o' y B' sm h' => ?_⟩
  exact ⟨o, σ'.set i o', B, L1 ++ (B' ++ R1), by rw [e1]; rfl, by rw [List.append_assoc], t.mono h1 sm, q4 F' o' y B' sm h'⟩

/-- a slot that holds an owned list -/
class OL {α : Type} (T : outParam (Ty α)) (sl : Sl (List α)) : Prop where
  opn : ∀ {F o x A}, sl.P F o x A → ∃ a vs, o = some (.ref a) ∧ A = [(a, .lst vs)] ∧ All2 (T.R F) vs x ∧ ∀ F' vs' x', All2 (T.R F') vs' x' → sl.P F' o x' [(a, .lst vs')]
instance {α : Type} {T : Ty α} : OL T (sR (oL T)) := ⟨fun {F o x A} ⟨v, e, a, vs, e3, e4, r⟩ => ⟨a, vs, by rw [e, e3], e4, r, fun F' vs' x' h => ⟨v, e, a, vs', e3, rfl, h⟩⟩⟩
instance {α : Type} {T : Ty α} {a : Addr} : OL T (sR (oLa a T)) := ⟨fun {F o x A} ⟨v, e, vs, e3, e4, r⟩ => ⟨a, vs, by rw [e, e3], e4, r, fun F' vs' x' h => ⟨v, e, vs', e3, rfl, h⟩⟩⟩

/-- one context is moved into another (weakening, freezing); the heap stays -/
structure Mv {S S' : Type} (G : Ctx S) (G' : Ctx S') (m : S → S') : Prop where
  mv : ∀ s F H σ A, G.P s F σ A → Holds F H A → ∃ F' A', G'.P (m s) F' σ A' ∧ Ext F H A F' H A'
theorem Mv.refl {S : Type} {G : Ctx S} : Mv G G (fun s => s) := ⟨fun s F H σ A h k => ⟨F, A, h, Ext.refl k⟩⟩
theorem Mv.trans {S S' S2 : Type} {G : Ctx S} {G' : Ctx S'} {G2 : Ctx S2} {m : S → S'} {n : S' → S2} (a : Mv G G' m) (b : Mv G' G2 n) : Mv G G2 (fun s => n (m s)) := ⟨fun s F H σ A h k => by
  obtain ⟨F1, A1, h1, e1⟩ := a.mv s F H σ A h k
  obtain ⟨F2, A2, h2, e2⟩ := b.mv _ F1 H σ A1 h1 e1.holds
  exact ⟨F2, A2, h2, e1.trans e2⟩⟩
/-- one slot's move -/
structure SMv {α β : Type} (sl : Sl α) (sl' : Sl β) (m : α → β) : Prop where
  mv : ∀ x F H o A, sl.P F o x A → Holds F H A → ∃ F' A', sl'.P F' o (m x) A' ∧ Ext F H A F' H A'
theorem SMv.refl {α : Type} {sl : Sl α} : SMv sl sl (fun x => x) := ⟨fun x F H o A h k => ⟨F, A, h, Ext.refl k⟩⟩
theorem SMv.any {α β : Type} {sl : Sl α} {m : α → β} : SMv sl (sAny : Sl β) m := ⟨fun x F H o A h k => ⟨F, A, trivial, Ext.refl k⟩⟩
theorem SMv.drop {α β : Type} {sl : Sl α} {m : α → β} : SMv sl (sAny : Sl β) m := ⟨fun x F H o A h k => ⟨F, [], trivial, (Ext.refl k).sub (List.nil_sublist _)⟩⟩
theorem SMv.freeze {α : Type} {T : Ty α} : SMv (sR (oL T)) (sR (fz (tLst T))) (fun x => x) := ⟨fun x F H o A ⟨v, e, a, vs, ev, eA, r⟩ k => by
  subst eA
  have ex : Ext F H [(a, .lst vs)] (upd F a (.lst vs)) H [] := Ext.freeze k
  exact ⟨_, [], ⟨v, e, rfl, a, vs, ev, upd_same, T.all r ex.fz⟩, ex⟩⟩
theorem SMv.freezeA {α : Type} {T : Ty α} {a : Addr} : SMv (sR (oLa a T)) (sR (fz (tLst T))) (fun x => x) := ⟨fun x F H o A ⟨v, e, vs, ev, eA, r⟩ k => by
  subst eA
  have ex : Ext F H [(a, .lst vs)] (upd F a (.lst vs)) H [] := Ext.freeze k
  exact ⟨_, [], ⟨v, e, rfl, a, vs, ev, upd_same, T.all r ex.fz⟩, ex⟩⟩
/-- a move that leaves the mirror's state -/
abbrev MvI {S : Type} (G G' : Ctx S) : Prop := Mv G G' (fun s => s)
abbrev SMvI {α : Type} (sl sl' : Sl α) : Prop := SMv sl sl' (fun x => x)
theorem Mv.nil : Mv gnil gnil (fun s => s) := Mv.refl
theorem Mv.cons {α β S S' : Type} {sl : Sl α} {sl' : Sl β} {G : Ctx S} {G' : Ctx S'} {m : α → β} {n : S → S'} (a : SMv sl sl' m) (b : Mv G G' n) : Mv (gcons sl G) (gcons sl' G') (fun s => (m s.1, n s.2)) := ⟨fun s F H σ A ⟨o, σ', B, R, e1, e2, h1, h2⟩ k => by
  subst e2
  obtain ⟨F1, B1, q1, x1⟩ := a.mv s.1 F H o B h1 (k.sub (List.sublist_append_left _ _))
  have k1 := Ext.frame k x1
  obtain ⟨F2, R2, q2, x2⟩ := b.mv s.2 F1 H σ' R (G.mono h2 x1.fz) (k1.holds.sub (List.sublist_append_right _ _))
  have k2 : Ext F1 H (B1 ++ R) F2 H (B1 ++ R2) := by
    have hh : Holds F1 H (R ++ B1) := k1.holds.perm List.perm_append_comm
    exact ((Ext.frame hh x2).perm List.perm_append_comm).permL List.perm_append_comm
  exact ⟨F2, B1 ++ R2, ⟨o, σ', B1, R2, e1, rfl, sl'.mono q1 x2.fz, q2⟩, k1.trans k2⟩⟩
theorem MvI.refl {S : Type} {G : Ctx S} : MvI G G := Mv.refl
theorem MvI.cons {α S : Type} {sl sl' : Sl α} {G G' : Ctx S} (a : SMvI sl sl') (b : MvI G G') : MvI (gcons sl G) (gcons sl' G') := Mv.cons a b
theorem SMvI.refl {α : Type} {sl : Sl α} : SMvI sl sl := SMv.refl
theorem SMvI.hide {α : Type} {sl : Sl α} : SMvI sl (sAny : Sl α) := SMv.any
theorem SMvI.freeze {α : Type} {T : Ty α} : SMvI (sR (oL T)) (sR (fz (tLst T))) := SMv.freeze
theorem SMvI.freezeA {α : Type} {T : Ty α} {a : Addr} : SMvI (sR (oLa a T)) (sR (fz (tLst T))) := SMv.freezeA
end TC
namespace TC
open PySem PySem.Spec PyProof.Rows L2

/-- how an exception lies: its mirror, its class, its own dict, the heap -/
abbrev XRel := Ex → Value → Option Addr → Hp → Prop

section
variable (XR : XRel) (W : WX)
/-- what an expression's mirror asks -/
def WPE {S α : Type} (p : Bool) (σ : St) (R : Rl α) (G : Ctx S) (F H : Hp) (A : Ow) (s : S) (Q : VK) : Res (α × S) → Prop
  | .ok (x, s') => ∀ v F' H' B A', R.P F' v x B → G.P s' F' σ A' → Ext F H A F' H' (B ++ A') → (p = true → A' = A ∧ s' = s) → Q v H'
  | .er ex => ∀ cls oe F' H' A', XR ex cls oe H' → Ext F H A F' H' A' → W cls oe σ H'
  | .bad => False
def WPT {S : Type} (p : Bool) (σ : St) (G : Ctx S) (F H : Hp) (A : Ow) (s : S) (Q : Bool → Hp → Prop) : Res (Bool × S) → Prop
  | .ok (x, s') => ∀ F' H' A', G.P s' F' σ A' → Ext F H A F' H' A' → (p = true → A' = A ∧ s' = s) → Q x H'
  | .er ex => ∀ cls oe F' H' A', XR ex cls oe H' → Ext F H A F' H' A' → W cls oe σ H'
  | .bad => False
def WPS {S' L ρ : Type} (R : Rl ρ) (Gb : Ctx L) (G' : Ctx S') (F H : Hp) (A : Ow) (D : Ends) : Out S' L ρ → Prop
  | .nx s' => ∀ F' σ' H' A', G'.P s' F' σ' A' → Ext F H A F' H' A' → D.nx σ' H'
  | .rt r => ∀ v F' H' A', R.P F' v r A' → Ext F H A F' H' A' → D.rt v H'
  | .bk l => ∀ F' σ' H' A', Gb.P l F' σ' A' → Ext F H A F' H' A' → D.bk σ' H'
  | .ct l => ∀ F' σ' H' A', Gb.P l F' σ' A' → Ext F H A F' H' A' → D.ct σ' H'
  | .er ex => ∀ cls oe F' H' σ' A', XR ex cls oe H' → Ext F H A F' H' A' → W cls oe σ' H'
  | .bad => False
variable (X : Cx)
/-- an expression has a mirror -/
def EM {S α : Type} (p : Bool) (G : Ctx S) (e : Expr) (R : Rl α) (f : S → Res (α × S)) : Prop :=
  ∃ t, PE X e t ∧ ∀ s F σ H A Q, G.P s F σ A → Holds F H A → WPE XR W p σ R G F H A s Q (f s) → t σ H Q
def TM {S : Type} (p : Bool) (G : Ctx S) (e : Expr) (f : S → Res (Bool × S)) : Prop :=
  ∃ t, PT X e t ∧ ∀ s F σ H A Q, G.P s F σ A → Holds F H A → WPT XR W p σ G F H A s Q (f s) → t σ H Q
/-- and, or -/
def BM {S : Type} (p : Bool) (G : Ctx S) (e : Expr) (f : S → Res (Bool × S)) : Prop :=
  ∃ t, PW X e t ∧ ∀ s F σ H A Q, G.P s F σ A → Holds F H A → WPT XR W p σ G F H A s Q (f s) → t σ H Q
def SM {S S' L ρ : Type} (R : Rl ρ) (Gb : Ctx L) (G : Ctx S) (st : Stmt) (G' : Ctx S') (f : S → Out S' L ρ) : Prop :=
  ∃ t, PS X st t ∧ ∀ s F σ H A D, G.P s F σ A → Holds F H A → WPS XR W R Gb G' F H A D (f s) → t D σ H
def SS {S S' L ρ : Type} (R : Rl ρ) (Gb : Ctx L) (G : Ctx S) (st : List Stmt) (G' : Ctx S') (f : S → Out S' L ρ) : Prop :=
  ∃ t, PSs X st t ∧ ∀ s F σ H A D, G.P s F σ A → Holds F H A → WPS XR W R Gb G' F H A D (f s) → t D σ H
end

/-- relations of argument lists -/
structure RA (P : Type) where
  P : Hp → List V → P → Ow → Prop
  mono : ∀ {F F' vs x A}, P F vs x A → Same F F' → P F' vs x A
def anil : RA Unit := ⟨fun _ vs _ A => vs = [] ∧ A = [], fun h _ => h⟩
def acons {α β : Type} (R : Rl α) (Z : RA β) : RA (α × β) := ⟨fun F vs x A => ∃ v r B C, vs = v :: r ∧ A = B ++ C ∧ R.P F v x.1 B ∧ Z.P F r x.2 C,
  fun ⟨v, r, B, C, e1, e2, h1, h2⟩ s => ⟨v, r, B, C, e1, e2, R.mono h1 s, Z.mono h2 s⟩⟩
/-- all of one kind, frozen -/
def aall {α : Type} (T : Ty α) : RA (List α) := ⟨fun F vs x A => A = [] ∧ All2 (T.R F) vs x, fun h s => ⟨h.1, T.all h.2 s⟩⟩
section
variable (XR : XRel) (W : WX)
def WPA {S P : Type} (p : Bool) (σ : St) (Z : RA P) (G : Ctx S) (F H : Hp) (A : Ow) (s : S) (Q : List V → Hp → Prop) : Res (P × S) → Prop
  | .ok (x, s') => ∀ vs F' H' B A', Z.P F' vs x B → G.P s' F' σ A' → Ext F H A F' H' (B ++ A') → (p = true → A' = A ∧ s' = s) → Q vs H'
  | .er ex => ∀ cls oe F' H' A', XR ex cls oe H' → Ext F H A F' H' A' → W cls oe σ H'
  | .bad => False
variable (X : Cx)
def AM {S P : Type} (p : Bool) (G : Ctx S) (es : List Expr) (Z : RA P) (f : S → Res (P × S)) : Prop :=
  ∃ t, PA X es t ∧ ∀ s F σ H A Q, G.P s F σ A → Holds F H A → WPA XR W p σ Z G F H A s Q (f s) → t σ H Q
end

section
variable {XR : XRel} {W : WX} {X : Cx} {S S' : Type} {G : Ctx S} {G' : Ctx S'} {α β γ : Type} {e a b : Expr} {es : List Expr} {pos : Pos} {p p1 p2 : Bool}

/-! ### the bind lemmas -/
theorem WPE.bind {R1 : Rl α} {R : Rl β} {p : Bool} {σ : St} {F H : Hp} {A : Ow} {s : S} {Q Q1 : VK} {r : Res (α × S)} {k : α × S → Res (β × S)} (h : WPE XR W p σ R G F H A s Q (r.bind k))
    (hk : ∀ x s' v F' H' B A', R1.P F' v x B → G.P s' F' σ A' → Ext F H A F' H' (B ++ A') → (p1 = true → A' = A ∧ s' = s) → WPE XR W p σ R G F H A s Q (k (x, s')) → Q1 v H') : WPE XR W p1 σ R1 G F H A s Q1 r := by
  cases r with
  | bad => exact h
  | er ex => exact h
  | ok xs =>
    obtain ⟨x, s'⟩ := xs
    exact fun v F' H' B A' h1 h2 h3 h4 => hk x s' v F' H' B A' h1 h2 h3 h4 h
theorem WPT.bindE {R : Rl β} {p : Bool} {σ : St} {F H : Hp} {A : Ow} {s : S} {Q : VK} {Q1 : Bool → Hp → Prop} {r : Res (Bool × S)} {k : Bool × S → Res (β × S)} (h : WPE XR W p σ R G F H A s Q (r.bind k))
    (hk : ∀ x s' F' H' A', G.P s' F' σ A' → Ext F H A F' H' A' → (p1 = true → A' = A ∧ s' = s) → WPE XR W p σ R G F H A s Q (k (x, s')) → Q1 x H') : WPT XR W p1 σ G F H A s Q1 r := by
  cases r with
  | bad => exact h
  | er ex => exact h
  | ok xs =>
    obtain ⟨x, s'⟩ := xs
    exact fun F' H' A' h2 h3 h4 => hk x s' F' H' A' h2 h3 h4 h
theorem WPE.bindT {R1 : Rl α} {p : Bool} {σ : St} {F H : Hp} {A : Ow} {s : S} {Q : Bool → Hp → Prop} {Q1 : VK} {r : Res (α × S)} {k : α × S → Res (Bool × S)} (h : WPT XR W p σ G F H A s Q (r.bind k))
    (hk : ∀ x s' v F' H' B A', R1.P F' v x B → G.P s' F' σ A' → Ext F H A F' H' (B ++ A') → (p1 = true → A' = A ∧ s' = s) → WPT XR W p σ G F H A s Q (k (x, s')) → Q1 v H') : WPE XR W p1 σ R1 G F H A s Q1 r := by
  cases r with
  | bad => exact h
  | er ex => exact h
  | ok xs =>
    obtain ⟨x, s'⟩ := xs
    exact fun v F' H' B A' h1 h2 h3 h4 => hk x s' v F' H' B A' h1 h2 h3 h4 h
theorem WPT.bind {p : Bool} {σ : St} {F H : Hp} {A : Ow} {s : S} {Q Q1 : Bool → Hp → Prop} {r : Res (Bool × S)} {k : Bool × S → Res (Bool × S)} (h : WPT XR W p σ G F H A s Q (r.bind k))
    (hk : ∀ x s' F' H' A', G.P s' F' σ A' → Ext F H A F' H' A' → (p1 = true → A' = A ∧ s' = s) → WPT XR W p σ G F H A s Q (k (x, s')) → Q1 x H') : WPT XR W p1 σ G F H A s Q1 r := by
  cases r with
  | bad => exact h
  | er ex => exact h
  | ok xs =>
    obtain ⟨x, s'⟩ := xs
    exact fun F' H' A' h2 h3 h4 => hk x s' F' H' A' h2 h3 h4 h
theorem WPA.bindE {P : Type} {Z : RA P} {R : Rl β} {p : Bool} {σ : St} {F H : Hp} {A : Ow} {s : S} {Q : VK} {Q1 : List V → Hp → Prop} {r : Res (P × S)} {k : P × S → Res (β × S)} (h : WPE XR W p σ R G F H A s Q (r.bind k))
    (hk : ∀ x s' v F' H' B A', Z.P F' v x B → G.P s' F' σ A' → Ext F H A F' H' (B ++ A') → (p1 = true → A' = A ∧ s' = s) → WPE XR W p σ R G F H A s Q (k (x, s')) → Q1 v H') : WPA XR W p1 σ Z G F H A s Q1 r := by
  cases r with
  | bad => exact h
  | er ex => exact h
  | ok xs =>
    obtain ⟨x, s'⟩ := xs
    exact fun v F' H' B A' h1 h2 h3 h4 => hk x s' v F' H' B A' h1 h2 h3 h4 h
theorem WPE.bindA {P : Type} {Z : RA P} {R1 : Rl α} {p : Bool} {σ : St} {F H : Hp} {A : Ow} {s : S} {Q : List V → Hp → Prop} {Q1 : VK} {r : Res (α × S)} {k : α × S → Res (P × S)} (h : WPA XR W p σ Z G F H A s Q (r.bind k))
    (hk : ∀ x s' v F' H' B A', R1.P F' v x B → G.P s' F' σ A' → Ext F H A F' H' (B ++ A') → (p1 = true → A' = A ∧ s' = s) → WPA XR W p σ Z G F H A s Q (k (x, s')) → Q1 v H') : WPE XR W p1 σ R1 G F H A s Q1 r := by
  cases r with
  | bad => exact h
  | er ex => exact h
  | ok xs =>
    obtain ⟨x, s'⟩ := xs
    exact fun v F' H' B A' h1 h2 h3 h4 => hk x s' v F' H' B A' h1 h2 h3 h4 h
theorem WPA.bind {P P' : Type} {Z1 : RA P} {Z : RA P'} {p : Bool} {σ : St} {F H : Hp} {A : Ow} {s : S} {Q Q1 : List V → Hp → Prop} {r : Res (P × S)} {k : P × S → Res (P' × S)} (h : WPA XR W p σ Z G F H A s Q (r.bind k))
    (hk : ∀ x s' v F' H' B A', Z1.P F' v x B → G.P s' F' σ A' → Ext F H A F' H' (B ++ A') → (p1 = true → A' = A ∧ s' = s) → WPA XR W p σ Z G F H A s Q (k (x, s')) → Q1 v H') : WPA XR W p1 σ Z1 G F H A s Q1 r := by
  cases r with
  | bad => exact h
  | er ex => exact h
  | ok xs =>
    obtain ⟨x, s'⟩ := xs
    exact fun v F' H' B A' h1 h2 h3 h4 => hk x s' v F' H' B A' h1 h2 h3 h4 h
theorem WPE.bindS {L ρ S2 : Type} {R : Rl ρ} {Gb : Ctx L} {G2 : Ctx S2} {R1 : Rl α} {σ : St} {F H : Hp} {A : Ow} {s : S} {D : Ends} {Q1 : VK} {r : Res (α × S)} {k : α × S → Out S2 L ρ} (h : WPS XR W R Gb G2 F H A D (r.out k))
    (hk : ∀ x s' v F' H' B A', R1.P F' v x B → G.P s' F' σ A' → Ext F H A F' H' (B ++ A') → WPS XR W R Gb G2 F H A D (k (x, s')) → Q1 v H') : WPE XR W p1 σ R1 G F H A s Q1 r := by
  cases r with
  | bad => exact h
  | er ex => exact fun cls oe F' H' A' h1 h2 => h cls oe F' H' σ A' h1 h2
  | ok xs =>
    obtain ⟨x, s'⟩ := xs
    exact fun v F' H' B A' h1 h2 h3 h4 => hk x s' v F' H' B A' h1 h2 h3 h
theorem WPT.bindS {L ρ S2 : Type} {R : Rl ρ} {Gb : Ctx L} {G2 : Ctx S2} {σ : St} {F H : Hp} {A : Ow} {s : S} {D : Ends} {Q1 : Bool → Hp → Prop} {r : Res (Bool × S)} {k : Bool × S → Out S2 L ρ} (h : WPS XR W R Gb G2 F H A D (r.out k))
    (hk : ∀ x s' F' H' A', G.P s' F' σ A' → Ext F H A F' H' A' → WPS XR W R Gb G2 F H A D (k (x, s')) → Q1 x H') : WPT XR W p1 σ G F H A s Q1 r := by
  cases r with
  | bad => exact h
  | er ex => exact fun cls oe F' H' A' h1 h2 => h cls oe F' H' σ A' h1 h2
  | ok xs =>
    obtain ⟨x, s'⟩ := xs
    exact fun F' H' A' h2 h3 h4 => hk x s' F' H' A' h2 h3 h

/-- a later starting point -/
theorem WPE.later {R : Rl α} {σ : St} {F H F1 H1 : Hp} {A A1 B C : Ow} {s s1 : S} {Q : VK} {r : Res (α × S)} (h : WPE XR W p σ R G F H A s Q r) (e : Ext F H A F1 H1 (B ++ A1)) (hp : p = true → A1 = A ∧ s1 = s)  :
    WPE XR W p σ ⟨fun F' v x C => R.P F' v x C, R.mono⟩ G F1 H1 A1 s1 Q r := by
  cases r with
  | bad => exact h
  | er ex => exact fun cls oe F' H' A' h1 h2 => h cls oe F' H' A' h1 ((e.sub (List.sublist_append_right B A1)).trans h2)
  | ok xs =>
    obtain ⟨x, s'⟩ := xs
    exact fun v F' H' B' A' h1 h2 h3 h4 => h v F' H' B' A' h1 h2 ((e.sub (List.sublist_append_right B A1)).trans h3) (fun q => ⟨(h4 q).1.trans (hp q).1, (h4 q).2.trans (hp q).2⟩)

/-! ### names and constants -/
theorem em_var {i : Nat} {x : Str} {T : Ty α} {get : S → α} {put : S → α → S} (hN : X.N[i]? = some x) (hv : Vis X.env.scope x) (at_ : At G i (sR (fz T)) get (sR (fz T)) G put)
    (hd : (x == ("__debug__" : Str)) = false := by decide) (hcd : (x == ("__classdict__" : Str)) = false := by decide) : EM XR W X true G (.Name x pos) (fz T) (fun s => .ok (get s, s)) := by
  refine ⟨_, pe_var hN hv hd hcd, fun s F σ H A Q g k h => ?_⟩
  obtain ⟨o, L, B, R, e1, e2, ⟨v, rfl, e3, r⟩, _⟩ := at_.at_ s F σ A g
  exact ⟨v, e1, h v F H [] A ⟨rfl, r⟩ g (Ext.refl k) fun _ => ⟨rfl, rfl⟩⟩
theorem em_int {i : Int} {j : Nat} : EM XR W X true G (.Constant (.int i) j pos) (fz tInt) (fun s => .ok (i, s)) := ⟨_, pe_int, fun s F σ H A Q g k h => h _ F H [] A ⟨rfl, rfl⟩ g (Ext.refl k) fun _ => ⟨rfl, rfl⟩⟩
theorem em_bool {i : Bool} {j : Nat} : EM XR W X true G (.Constant (.bool i) j pos) (fz tBool) (fun s => .ok (i, s)) := ⟨_, pe_bl, fun s F σ H A Q g k h => h _ F H [] A ⟨rfl, rfl⟩ g (Ext.refl k) fun _ => ⟨rfl, rfl⟩⟩
theorem em_str {i : Str} {j : Nat} : EM XR W X true G (.Constant (.str i) j pos) (fz tStr) (fun s => .ok (i, s)) := ⟨_, pe_str, fun s F σ H A Q g k h => h _ F H [] A ⟨rfl, rfl⟩ g (Ext.refl k) fun _ => ⟨rfl, rfl⟩⟩
theorem em_none {j : Nat} {T : Ty α} : EM XR W X true G (.Constant .none j pos) (fz (tOpt T)) (fun s => .ok (none, s)) := ⟨_, pe_non, fun s F σ H A Q g k h => h _ F H [] A ⟨rfl, rfl⟩ g (Ext.refl k) fun _ => ⟨rfl, rfl⟩⟩
/-- a constant of the module -/
theorem em_glob {x : Str} {v : V} {u : Value} {T : Ty α} {c : α} (hg : Gl X x) (hm : X.mg x = some u) (r : RelV v u) (hr : ∀ F, T.R F v c) (hd : (x == ("__debug__" : Str)) = false := by decide) : EM XR W X true G (.Name x pos) (fz T) (fun s => .ok (c, s)) :=
  ⟨_, pe_glob hg hm r hd, fun s F σ H A Q g k h => h _ F H [] A ⟨rfl, hr F⟩ g (Ext.refl k) fun _ => ⟨rfl, rfl⟩⟩
/-- None ahead: an optional value that is there -/
theorem em_some {T : Ty α} {f : S → Res (α × S)} (ne : ∀ F v x, T.R F v x → v ≠ .non) (h : EM XR W X p G e (fz T) f) : EM XR W X p G e (fz (tOpt T)) (fun s => (f s).bind fun r => .ok (some r.1, r.2)) := by
  obtain ⟨t, ht, hh⟩ := h
  refine ⟨t, ht, fun s F σ H A Q g k w => hh s F σ H A Q g k (WPE.bind w fun x s' v F' H' B A' h1 h2 h3 h4 w => w v F' H' B A' ⟨h1.1, ne _ _ _ h1.2, h1.2⟩ h2 h3 h4)⟩
/-- a change of the view of a value -/
theorem em_cast {R : Rl α} {R' : Rl β} {f : S → Res (α × S)} (c : α → β) (im : ∀ F v x A, R.P F v x A → R'.P F v (c x) A) (h : EM XR W X p G e R f) : EM XR W X p G e R' (fun s => (f s).bind fun r => .ok (c r.1, r.2)) := by
  obtain ⟨t, ht, hh⟩ := h
  refine ⟨t, ht, fun s F σ H A Q g k w => hh s F σ H A Q g k (WPE.bind w fun x s' v F' H' B A' h1 h2 h3 h4 w => w v F' H' B A' (im _ _ _ _ h1) h2 h3 h4)⟩
/-- a list just made is frozen -/
theorem em_freeze {T : Ty α} {f : S → Res (List α × S)} (h : EM XR W X p G e (oL T) f) : EM XR W X p G e (fz (tLst T)) f := by
  obtain ⟨t, ht, hh⟩ := h
  refine ⟨t, ht, fun s F σ H A Q g k w => hh s F σ H A Q g k ?_⟩
  cases q : f s with
  | bad => rw [q] at w; exact w
  | er ex => rw [q] at w; exact w
  | ok xs =>
    obtain ⟨x, s'⟩ := xs
    rw [q] at w
    intro v F' H' B A' h1 h2 h3 h4
    obtain ⟨a, vs, rfl, rfl, r⟩ := h1
    have ex : Ext F' H' ((a, .lst vs) :: A') (upd F' a (.lst vs)) H' A' := Ext.freeze h3.holds
    exact w _ _ H' [] A' ⟨rfl, a, vs, rfl, upd_same, T.all r ex.fz⟩ (G.mono h2 ex.fz) (h3.trans ex) h4

/-! ### operators -/
/-- two frozen operands, a result that is laid down by itself -/
def Op2 (r : R2) (R1 : Ty α) (R2 : Ty β) (g : α → β → Res γ) (R : Rl γ) : Prop :=
  ∀ F H v u x y (Q : VK), R1.R F v x → R2.R F u y → Same F H → (∀ z, g x y = .ok z → ∀ w F' H' B, R.P F' w z B → Ext F H [] F' H' B → Q w H') → (g x y ≠ .bad) → (∀ ex, g x y ≠ .er ex) → r v u H Q
theorem holds_nil {F H : Hp} (s : Same F H) : Holds F H [] := ⟨s, fun _ m => absurd m (by simp), by simp⟩
theorem ext_nil {F H F' H' : Hp} {A B : Ow} (h : Holds F H A) (e : Ext F H [] F' H' B) : Ext F H A F' H' (B ++ A) := Ext.frame (A := []) (B := A) h e
theorem op2_run {r : R2} {T1 : Ty α} {T2 : Ty β} {g : α → β → Res γ} {R : Rl γ} (ho : Op2 r T1 T2 g R) {σ : St} {F H F1 H1 : Hp} {A A1 : Ow} {s s1 : S} {x : α} {y : β} {v u : V} {Q : VK} (e1 : Ext F H A F1 H1 A1) (g1 : G.P s1 F1 σ A1)
    (hp : p = true → A1 = A ∧ s1 = s) (rx : T1.R F1 v x) (ry : T2.R F1 u y) (w : WPE XR W p σ R G F H A s Q ((g x y).bind fun z => .ok (z, s1))) (ne : ∀ ex, g x y ≠ .er ex := by intro ex h; cases h) : r v u H1 Q := by
  refine ho F1 H1 v u x y Q rx ry e1.holds.fz (fun z ez w' F' H' B hr ex => ?_) (fun q => ?_) ne
  · rw [ez] at w
    have ex' := ext_nil e1.holds ex
    exact w w' F' H' B A1 hr (G.mono g1 ex.fz) (e1.trans ex') hp
  · rw [q] at w; exact w
theorem em_bin {op : Operator} {r : R2} {T1 : Ty α} {T2 : Ty β} {g : α → β → Res γ} {R : Rl γ} {fa : S → Res (α × S)} {fb : S → Res (β × S)} (hop : OpR X (binaryOp op) r) (ho : Op2 r T1 T2 g R) (ne : ∀ x y ex, g x y ≠ .er ex)
    (ha : EM XR W X p1 G a (fz T1) fa) (hb : EM XR W X p2 G b (fz T2) fb) :
    EM XR W X (p1 && p2) G (.BinOp a op b pos) R (fun s => (fa s).bind fun r1 => (fb r1.2).bind fun r2 => (g r1.1 r2.1).bind fun z => .ok (z, r2.2)) := by
  obtain ⟨ta, hta, ha⟩ := ha
  obtain ⟨tb, htb, hb⟩ := hb
  refine ⟨_, pe_op hop hta htb, fun s F σ H A Q g k w => ha s F σ H A _ g k (WPE.bind w fun x s1 v F1 H1 B A1 ⟨rB, r1⟩ g1 e1 q1 w => ?_)⟩
  subst rB
  refine hb s1 F1 σ H1 A1 _ g1 e1.holds ?_
  cases q : fb s1 with
  | bad => rw [q] at w; exact w
  | er ex => rw [q] at w; exact fun cls oe F' H' A' h1 h2 => w cls oe F' H' A' h1 (e1.trans h2)
  | ok ys =>
    obtain ⟨y, s2⟩ := ys
    rw [q] at w
    rintro u F2 H2 B A2 ⟨rB, r2⟩ g2 e2 q2
    subst rB
    exact op2_run ho (e1.trans e2) g2 (fun hp => by
      simp only [Bool.and_eq_true] at hp
      exact ⟨(q2 hp.2).1.trans (q1 hp.1).1, (q2 hp.2).2.trans (q1 hp.1).2⟩) (T1.mono r1 e2.fz) r2 w (ne x y)
theorem em_cmp {op : CmpOp} {r : R2} {T1 : Ty α} {T2 : Ty β} {g : α → β → Res γ} {R : Rl γ} {fa : S → Res (α × S)} {fb : S → Res (β × S)} (hop : OpR X (compareOp op) r) (ho : Op2 r T1 T2 g R) (ne : ∀ x y ex, g x y ≠ .er ex) (hm : behindInMarks op b = false)
    (ha : EM XR W X p1 G a (fz T1) fa) (hb : EM XR W X p2 G b (fz T2) fb) :
    EM XR W X (p1 && p2) G (.Compare a [op] [b] pos) R (fun s => (fa s).bind fun r1 => (fb r1.2).bind fun r2 => (g r1.1 r2.1).bind fun z => .ok (z, r2.2)) := by
  obtain ⟨ta, hta, ha⟩ := ha
  obtain ⟨tb, htb, hb⟩ := hb
  refine ⟨_, pe_cmpR hop hta htb hm, fun s F σ H A Q g k w => ha s F σ H A _ g k (WPE.bind w fun x s1 v F1 H1 B A1 ⟨rB, r1⟩ g1 e1 q1 w => ?_)⟩
  subst rB
  refine hb s1 F1 σ H1 A1 _ g1 e1.holds ?_
  cases q : fb s1 with
  | bad => rw [q] at w; exact w
  | er ex => rw [q] at w; exact fun cls oe F' H' A' h1 h2 => w cls oe F' H' A' h1 (e1.trans h2)
  | ok ys =>
    obtain ⟨y, s2⟩ := ys
    rw [q] at w
    rintro u F2 H2 B A2 ⟨rB, r2⟩ g2 e2 q2
    subst rB
    exact op2_run ho (e1.trans e2) g2 (fun hp => by
      simp only [Bool.and_eq_true] at hp
      exact ⟨(q2 hp.2).1.trans (q1 hp.1).1, (q2 hp.2).2.trans (q1 hp.1).2⟩) (T1.mono r1 e2.fz) r2 w (ne x y)
/-- a one-place operation by its reading -/
def Op1 (r : V → Hp → VK → Prop) (T : Ty α) (g : α → Res γ) (R : Rl γ) : Prop :=
  ∀ F H v x (Q : VK), T.R F v x → Same F H → (∀ z, g x = .ok z → ∀ w F' H' B, R.P F' w z B → Ext F H [] F' H' B → Q w H') → (g x ≠ .bad) → (∀ ex, g x ≠ .er ex) → r v H Q
theorem op1_run {r : V → Hp → VK → Prop} {T : Ty α} {g : α → Res γ} {R : Rl γ} (ho : Op1 r T g R) {σ : St} {F H F1 H1 : Hp} {A A1 : Ow} {s s1 : S} {x : α} {v : V} {Q : VK} (e1 : Ext F H A F1 H1 A1) (g1 : G.P s1 F1 σ A1)
    (hp : p = true → A1 = A ∧ s1 = s) (rx : T.R F1 v x) (w : WPE XR W p σ R G F H A s Q ((g x).bind fun z => .ok (z, s1))) (ne : ∀ ex, g x ≠ .er ex) : r v H1 Q := by
  refine ho F1 H1 v x Q rx e1.holds.fz (fun z ez w' F' H' B hr ex => ?_) (fun q => ?_) ne
  · rw [ez] at w
    exact w w' F' H' B A1 hr (G.mono g1 ex.fz) (e1.trans (ext_nil e1.holds ex)) hp
  · rw [q] at w; exact w
theorem em_un {op : UnaryOp} {r : V → Hp → VK → Prop} {T : Ty α} {g : α → Res γ} {R : Rl γ} {fa : S → Res (α × S)} (hop : UnR X (unaryOp op) r) (ho : Op1 r T g R) (ne : ∀ x ex, g x ≠ .er ex) (ha : EM XR W X p G a (fz T) fa) :
    EM XR W X p G (.UnaryOp op a pos) R (fun s => (fa s).bind fun r1 => (g r1.1).bind fun z => .ok (z, r1.2)) := by
  obtain ⟨ta, hta, ha⟩ := ha
  refine ⟨_, pe_un hop hta, fun s F σ H A Q g k w => ha s F σ H A _ g k (WPE.bind w fun x s1 v F1 H1 B A1 ⟨rB, r1⟩ g1 e1 q1 w => ?_)⟩
  subst rB
  exact op1_run ho e1 g1 q1 r1 w (ne x)
/-- f(e), a built-in of one frozen argument -/
theorem em_callB {id : String} {x : Str} {pp : Pos} {r : List V → Hp → VK → Prop} {T : Ty α} {g : α → Res γ} {R : Rl γ} {fa : S → Res (α × S)} (hc : CallR X (.builtin id) r) (hg : Gl X x) (hm : X.mg x = none) (hv : bootBuiltins x = some (.builtin id))
    (ho : Op1 (fun v H Q => r [v] H Q) T g R) (ne : ∀ x ex, g x ≠ .er ex) (ha : EM XR W X p G a (fz T) fa) (hs : starEach [a] X.env = [(false, eval a X.env)] := by rfl) (hn : x ≠ "__name__" := by decide) (hdb : (x == ("__debug__" : Str)) = false := by decide) :
    EM XR W X p G (.Call (.Name x pp) [a] [] pos) R (fun s => (fa s).bind fun r1 => (g r1.1).bind fun z => .ok (z, r1.2)) := by
  obtain ⟨ta, hta, ha⟩ := ha
  refine ⟨_, pe_callB hc hg hm hv (pa_cons hta pa_nil hs) hn hdb hs rfl, fun s F σ H A Q g k w => ha s F σ H A _ g k (WPE.bind w fun x s1 v F1 H1 B A1 ⟨rB, r1⟩ g1 e1 q1 w => ?_)⟩
  subst rB
  exact op1_run ho e1 g1 q1 r1 w (ne x)
theorem em_callTy {id : String} {x : Str} {pp : Pos} {r : List V → Hp → VK → Prop} {T : Ty α} {g : α → Res γ} {R : Rl γ} {fa : S → Res (α × S)} (hc : CallR X (.type id) r) (hg : Gl X x) (hm : X.mg x = none) (hv : bootBuiltins x = some (.type id))
    (ho : Op1 (fun v H Q => r [v] H Q) T g R) (ne : ∀ x ex, g x ≠ .er ex) (ha : EM XR W X p G a (fz T) fa) (hs : starEach [a] X.env = [(false, eval a X.env)] := by rfl) (hn : x ≠ "__name__" := by decide) (hdb : (x == ("__debug__" : Str)) = false := by decide) :
    EM XR W X p G (.Call (.Name x pp) [a] [] pos) R (fun s => (fa s).bind fun r1 => (g r1.1).bind fun z => .ok (z, r1.2)) := by
  obtain ⟨ta, hta, ha⟩ := ha
  refine ⟨_, pe_callTy hc hg hm hv (pa_cons hta pa_nil hs) hn hdb hs rfl, fun s F σ H A Q g k w => ha s F σ H A _ g k (WPE.bind w fun x s1 v F1 H1 B A1 ⟨rB, r1⟩ g1 e1 q1 w => ?_)⟩
  subst rB
  exact op1_run ho e1 g1 q1 r1 w (ne x)
end
end TC
namespace TC
open PySem PySem.Spec PyProof.Rows L2

section
variable {XR : XRel} {W : WX} {X : Cx} {S S' S2 : Type} {G : Ctx S} {G' : Ctx S'} {α β γ : Type} {e a b c : Expr} {es : List Expr} {pos : Pos} {p p1 p2 p3 : Bool}

/-- two operands, whatever the construct -/
theorem em_op2 {r : R2} {T1 : Ty α} {T2 : Ty β} {g : α → β → Res γ} {R : Rl γ} {fa : S → Res (α × S)} {fb : S → Res (β × S)} (mk : ∀ ta tb, PE X a ta → PE X b tb → PE X e (tOp r ta tb)) (ho : Op2 r T1 T2 g R) (ne : ∀ x y ex, g x y ≠ .er ex)
    (ha : EM XR W X p1 G a (fz T1) fa) (hb : EM XR W X p2 G b (fz T2) fb) :
    EM XR W X (p1 && p2) G e R (fun s => (fa s).bind fun r1 => (fb r1.2).bind fun r2 => (g r1.1 r2.1).bind fun z => .ok (z, r2.2)) := by
  obtain ⟨ta, hta, ha⟩ := ha
  obtain ⟨tb, htb, hb⟩ := hb
  refine ⟨_, mk _ _ hta htb, fun s F σ H A Q g k w => ha s F σ H A _ g k (WPE.bind w fun x s1 v F1 H1 B A1 ⟨rB, r1⟩ g1 e1 q1 w => ?_)⟩
  subst rB
  refine hb s1 F1 σ H1 A1 _ g1 e1.holds ?_
  cases q : fb s1 with
  | bad => rw [q] at w; exact w
  | er ex => rw [q] at w; exact fun cls oe F' H' A' h1 h2 => w cls oe F' H' A' h1 (e1.trans h2)
  | ok ys =>
    obtain ⟨y, s2⟩ := ys
    rw [q] at w
    rintro u F2 H2 B A2 ⟨rB, r2⟩ g2 e2 q2
    subst rB
    exact op2_run ho (e1.trans e2) g2 (fun hp => by
      simp only [Bool.and_eq_true] at hp
      exact ⟨(q2 hp.2).1.trans (q1 hp.1).1, (q2 hp.2).2.trans (q1 hp.1).2⟩) (T1.mono r1 e2.fz) r2 w (ne x y)
theorem em_op1 {r : V → Hp → VK → Prop} {T : Ty α} {g : α → Res γ} {R : Rl γ} {fa : S → Res (α × S)} (mk : ∀ ta, PE X a ta → PE X e (tUn r ta)) (ho : Op1 r T g R) (ne : ∀ x ex, g x ≠ .er ex) (ha : EM XR W X p G a (fz T) fa) :
    EM XR W X p G e R (fun s => (fa s).bind fun r1 => (g r1.1).bind fun z => .ok (z, r1.2)) := by
  obtain ⟨ta, hta, ha⟩ := ha
  refine ⟨_, mk _ hta, fun s F σ H A Q g k w => ha s F σ H A _ g k (WPE.bind w fun x s1 v F1 H1 B A1 ⟨rB, r1⟩ g1 e1 q1 w => ?_)⟩
  subst rB
  exact op1_run ho e1 g1 q1 r1 w (ne x)

/-! ### the operators on ints -/
theorem o2_I0 {g : Int → Int → Int} : Op2 (rI0 fun i j => .int (g i j)) tInt tInt (fun x y => .ok (g x y)) (fz tInt) := fun F H v u x y Q rv ru s h _ _ =>
  ⟨x, y, rv, ru, h _ rfl _ F H [] ⟨rfl, rfl⟩ (Ext.refl (holds_nil s))⟩
theorem o2_I {C : Int → Int → Prop} [∀ x y, Decidable (C x y)] {g : Int → Int → Int} : Op2 (rI C fun i j => .int (g i j)) tInt tInt (fun x y => if C x y then .ok (g x y) else .bad) (fz tInt) := fun F H v u x y Q rv ru s h nb _ => by
  by_cases hc : C x y
  · exact ⟨x, y, rv, ru, hc, h _ (if_pos hc) _ F H [] ⟨rfl, rfl⟩ (Ext.refl (holds_nil s))⟩
  · exact absurd (if_neg hc) nb
theorem o2_B0 {g : Int → Int → Bool} : Op2 (rI0 fun i j => .bl (g i j)) tInt tInt (fun x y => .ok (g x y)) (fz tBool) := fun F H v u x y Q rv ru s h _ _ =>
  ⟨x, y, rv, ru, h _ rfl _ F H [] ⟨rfl, rfl⟩ (Ext.refl (holds_nil s))⟩
instance {x y : Int} : Decidable (CMul x y) := by unfold CMul; infer_instance
instance {x y : Int} : Decidable (CDiv x y) := by unfold CDiv; infer_instance
instance {x y : Int} : Decidable (CPow x y) := by unfold CPow; infer_instance
def mAdd (x y : Int) : Res Int := .ok (x + y)
def mSub (x y : Int) : Res Int := .ok (x - y)
def mMul (x y : Int) : Res Int := if CMul x y then .ok (x * y) else .bad
def mMod (x y : Int) : Res Int := if 0 < y then .ok (x % y) else .bad
def mDiv (x y : Int) : Res Int := if CDiv x y then .ok (x / y) else .bad
def mPow (x y : Int) : Res Int := if CPow x y then .ok (x ^ y.toNat) else .bad
theorem ifne {α : Type} {c : Prop} [Decidable c] {z : α} {ex : Ex} : (if c then Res.ok z else .bad) ≠ .er ex := by split <;> (intro h; cases h)
theorem okne {α : Type} {z : α} {ex : Ex} : (Res.ok z) ≠ .er ex := by intro h; cases h
section
variable {fa : S → Res (Int × S)} {fb : S → Res (Int × S)} (ha : EM XR W X p1 G a (fz tInt) fa) (hb : EM XR W X p2 G b (fz tInt) fb)
include ha hb
theorem em_add : EM XR W X (p1 && p2) G (.BinOp a .Add b pos) (fz tInt) (fun s => (fa s).bind fun r1 => (fb r1.2).bind fun r2 => (mAdd r1.1 r2.1).bind fun z => .ok (z, r2.2)) := em_op2 (fun _ _ => pe_op op_add) o2_I0 (fun _ _ _ => okne) ha hb
theorem em_subt : EM XR W X (p1 && p2) G (.BinOp a .Sub b pos) (fz tInt) (fun s => (fa s).bind fun r1 => (fb r1.2).bind fun r2 => (mSub r1.1 r2.1).bind fun z => .ok (z, r2.2)) := em_op2 (fun _ _ => pe_op op_sub) o2_I0 (fun _ _ _ => okne) ha hb
theorem em_mul : EM XR W X (p1 && p2) G (.BinOp a .Mult b pos) (fz tInt) (fun s => (fa s).bind fun r1 => (fb r1.2).bind fun r2 => (mMul r1.1 r2.1).bind fun z => .ok (z, r2.2)) := em_op2 (fun _ _ => pe_op op_mul) o2_I (fun _ _ _ => ifne) ha hb
theorem em_mod : EM XR W X (p1 && p2) G (.BinOp a .Mod b pos) (fz tInt) (fun s => (fa s).bind fun r1 => (fb r1.2).bind fun r2 => (mMod r1.1 r2.1).bind fun z => .ok (z, r2.2)) := em_op2 (fun _ _ => pe_op op_mod) o2_I (fun _ _ _ => ifne) ha hb
theorem em_fdiv : EM XR W X (p1 && p2) G (.BinOp a .FloorDiv b pos) (fz tInt) (fun s => (fa s).bind fun r1 => (fb r1.2).bind fun r2 => (mDiv r1.1 r2.1).bind fun z => .ok (z, r2.2)) := em_op2 (fun _ _ => pe_op op_fdiv) o2_I (fun _ _ _ => ifne) ha hb
theorem em_pow : EM XR W X (p1 && p2) G (.BinOp a .Pow b pos) (fz tInt) (fun s => (fa s).bind fun r1 => (fb r1.2).bind fun r2 => (mPow r1.1 r2.1).bind fun z => .ok (z, r2.2)) := em_op2 (fun _ _ => pe_op op_pow) o2_I (fun _ _ _ => ifne) ha hb
end
theorem o1_neg : Op1 (rU fun i => .int (-i)) tInt (fun x => .ok (-x)) (fz tInt) := fun F H v x Q rv s h _ _ => ⟨x, rv, h _ rfl _ F H [] ⟨rfl, rfl⟩ (Ext.refl (holds_nil s))⟩
theorem em_neg {fa : S → Res (Int × S)} (ha : EM XR W X p1 G a (fz tInt) fa) : EM XR W X p1 G (.UnaryOp .USub a pos) (fz tInt) (fun s => (fa s).bind fun r1 => (Res.ok (-r1.1)).bind fun z => .ok (z, r1.2)) := em_un un_neg o1_neg (fun _ _ => okne) ha

/-! ### comparisons: what a comparison is by values -/
/-- op between two frozen values gives a truth value -/
structure Cmp (X : Cx) (op : CmpOp) (T : Ty α) (U : Ty β) (g : α → β → Bool) : Prop where
  ex : ∃ r, OpR X (compareOp op) r ∧ Op2 r T U (fun x y => .ok (g x y)) (fz tBool)
theorem c_lt : Cmp X .Lt tInt tInt (fun i j => decide (i < j)) := ⟨_, op_lt, o2_B0⟩
theorem c_le : Cmp X .LtE tInt tInt (fun i j => decide (i ≤ j)) := ⟨_, op_le, o2_B0⟩
theorem c_gt : Cmp X .Gt tInt tInt (fun i j => decide (j < i)) := ⟨_, op_gt, o2_B0⟩
theorem c_ge : Cmp X .GtE tInt tInt (fun i j => decide (j ≤ i)) := ⟨_, op_ge, o2_B0⟩
theorem flat_res {H F : Hp} {k k' : Bool} {Q : VK} {s : Same F H} (h : ∀ z, (Res.ok k') = .ok z → ∀ w F' H' B, (fz tBool).P F' w z B → Ext F H [] F' H' B → Q w H') (e : k = k') : Q (.bl k) H := by
  subst e
  exact h _ rfl _ F H [] ⟨rfl, rfl⟩ (Ext.refl (holds_nil s))
/-- a type of scalars -/
structure Scal (T : Ty α) [DecidableEq α] where
  of : α → V
  is : ∀ F v x, T.R F v x → v = of x
  inj : ∀ x y, of x = of y → x = y
  sc : ∀ x y, scal (of x) (of y) = true
  flat : ∀ x, flatV (of x) = true
  eqv : ∀ x y, eqV (of x) (of y) = decide (x = y)
def scInt : Scal tInt := ⟨V.int, fun _ _ _ h => h, fun _ _ h => by cases h; rfl, fun _ _ => rfl, fun _ => rfl, fun x y => by show (x == y) = _; exact Bool.beq_eq_decide_eq x y⟩
def scBool : Scal tBool := ⟨V.bl, fun _ _ _ h => h, fun _ _ h => by cases h; rfl, fun _ _ => rfl, fun _ => rfl, fun x y => by cases x <;> cases y <;> rfl⟩
def scStr : Scal tStr := ⟨V.str, fun _ _ _ h => h, fun _ _ h => by cases h; rfl, fun _ _ => rfl, fun _ => rfl, fun x y => by show (x == y) = _; exact Bool.beq_eq_decide_eq x y⟩
theorem dec_congr {P Q : Prop} [Decidable P] [Decidable Q] (h : P ↔ Q) : decide P = decide Q := by
  by_cases q : Q
  · rw [decide_eq_true q, decide_eq_true (h.mpr q)]
  · rw [decide_eq_false q, decide_eq_false fun z => q (h.mp z)]
theorem c_eqS [DecidableEq α] {T : Ty α} (c : Scal T) : Cmp X .Eq T T (fun i j => decide (i = j)) := ⟨_, op_eq, fun F H v u x y Q rv ru s h _ _ => by
  rw [c.is F v x rv, c.is F u y ru]
  exact ⟨c.sc x y, flat_res (s := s) h (dec_congr ⟨c.inj x y, fun q => by rw [q]⟩)⟩⟩
theorem c_neS [DecidableEq α] {T : Ty α} (c : Scal T) : Cmp X .NotEq T T (fun i j => !decide (i = j)) := ⟨_, op_ne, fun F H v u x y Q rv ru s h _ _ => by
  rw [c.is F v x rv, c.is F u y ru]
  exact ⟨c.sc x y, flat_res (s := s) h (congrArg _ (dec_congr ⟨c.inj x y, fun q => by rw [q]⟩))⟩⟩
/-- data of any depth -/
structure EqT (K : PySem.W.Frag) (T : Ty α) [DecidableEq α] where
  enc : α → PyData
  dp : ∀ {H v x}, T.R H v x → Dp K H v (enc x)
  lay : ∀ {H v x}, T.R H v x → (enc x).canLay0 = true
  d : Nat
  dep : ∀ x, (enc x).depth ≤ d
  eqv : ∀ x y, PyData.eqv (enc x) (enc y) = decide (x = y)
theorem EqT.sh {K : PySem.W.Frag} {T : Ty α} [DecidableEq α] (c : EqT K T) (hd : c.d ≤ 64) {H : Hp} {v : V} {x : α} (r : T.R H v x) : SeqAt.shaped (c.enc x) = true := by
  unfold SeqAt.shaped
  rw [c.lay r, Bool.true_and]
  exact decide_eq_true (Nat.le_trans (c.dep x) hd)
theorem c_eqD [DecidableEq α] {T : Ty α} (c : EqT X.K T) (hu : X.A.units + 64 < cLine) (hd : c.d ≤ 64) : Cmp X .Eq T T (fun i j => decide (i = j)) := ⟨_, op_eqD hu, fun F H v u x y Q rv ru s h _ _ =>
  ⟨c.enc x, c.enc y, c.dp (T.mono rv s), c.dp (T.mono ru s), c.sh hd rv, c.sh hd ru, flat_res (s := s) h (c.eqv x y)⟩⟩
theorem c_neD [DecidableEq α] {T : Ty α} (c : EqT X.K T) (hu : X.A.units + 64 < cLine) (hd : c.d ≤ 64) : Cmp X .NotEq T T (fun i j => !decide (i = j)) := ⟨_, op_neD hu, fun F H v u x y Q rv ru s h _ _ =>
  ⟨c.enc x, c.enc y, c.dp (T.mono rv s), c.dp (T.mono ru s), c.sh hd rv, c.sh hd ru, flat_res (s := s) h (congrArg _ (c.eqv x y))⟩⟩
theorem inV_of [DecidableEq α] {T : Ty α} (c : Scal T) {F : Hp} {x : α} : ∀ {vs : List V} {xs : List α}, All2 (T.R F) vs xs → inV (c.of x) vs = decide (x ∈ xs) ∧ vs.all flatV = true
  | [], [], _ => by simp [inV]
  | v :: vs, y :: ys, h => by
    obtain ⟨e1, e2⟩ := inV_of c (x := x) h.2
    have ev := c.is F v y h.1
    refine ⟨?_, ?_⟩
    · show (eqV v (c.of x) || inV (c.of x) vs) = _
      rw [e1, ev, c.eqv, Bool.eq_iff_iff]
      simp only [Bool.or_eq_true, decide_eq_true_eq, List.mem_cons]
      exact or_congr ⟨Eq.symm, Eq.symm⟩ Iff.rfl
    · rw [List.all_cons, ev, c.flat, e2]; rfl
  | [], _ :: _, h => h.elim
  | _ :: _, [], h => h.elim
theorem c_inL [DecidableEq α] {T : Ty α} (c : Scal T) : Cmp X .In T (tLst T) (fun i j => decide (i ∈ j)) := ⟨_, op_in_seq, fun F H v u x y Q rv ru s h _ _ => by
  obtain ⟨a, vs, rfl, q, r⟩ := ru
  obtain ⟨e1, e2⟩ := inV_of c (x := x) r
  rw [c.is F v x rv]
  exact ⟨a, vs, rfl, .inl (SqL.of (s _ _ q)), c.flat x, e2, flat_res (s := s) h e1⟩⟩
theorem c_inT [DecidableEq α] {T : Ty α} (c : Scal T) : Cmp X .In T (tTup T) (fun i j => decide (i ∈ j)) := ⟨_, op_in_seq, fun F H v u x y Q rv ru s h _ _ => by
  obtain ⟨a, vs, rfl, q, r⟩ := ru
  obtain ⟨e1, e2⟩ := inV_of c (x := x) r
  rw [c.is F v x rv]
  exact ⟨a, vs, rfl, .inr (SqT.of (s _ _ q)), c.flat x, e2, flat_res (s := s) h e1⟩⟩
theorem c_ninL [DecidableEq α] {T : Ty α} (c : Scal T) : Cmp X .NotIn T (tLst T) (fun i j => !decide (i ∈ j)) := ⟨_, op_notIn_seq, fun F H v u x y Q rv ru s h _ _ => by
  obtain ⟨a, vs, rfl, q, r⟩ := ru
  obtain ⟨e1, e2⟩ := inV_of c (x := x) r
  rw [c.is F v x rv]
  exact ⟨a, vs, rfl, .inl (SqL.of (s _ _ q)), c.flat x, e2, flat_res (s := s) h (by rw [if_pos rfl, e1])⟩⟩
theorem c_ninT [DecidableEq α] {T : Ty α} (c : Scal T) : Cmp X .NotIn T (tTup T) (fun i j => !decide (i ∈ j)) := ⟨_, op_notIn_seq, fun F H v u x y Q rv ru s h _ _ => by
  obtain ⟨a, vs, rfl, q, r⟩ := ru
  obtain ⟨e1, e2⟩ := inV_of c (x := x) r
  rw [c.is F v x rv]
  exact ⟨a, vs, rfl, .inr (SqT.of (s _ _ q)), c.flat x, e2, flat_res (s := s) h (by rw [if_pos rfl, e1])⟩⟩
/-- as a value -/
theorem em_c {op : CmpOp} {T : Ty α} {U : Ty β} {g : α → β → Bool} {fa : S → Res (α × S)} {fb : S → Res (β × S)} (c : Cmp X op T U g) (hm : behindInMarks op b = false) (ha : EM XR W X p1 G a (fz T) fa) (hb : EM XR W X p2 G b (fz U) fb) :
    EM XR W X (p1 && p2) G (.Compare a [op] [b] pos) (fz tBool) (fun s => (fa s).bind fun r1 => (fb r1.2).bind fun r2 => .ok (g r1.1 r2.1, r2.2)) := by
  obtain ⟨r, h1, h2⟩ := c.ex
  exact em_op2 (fun _ _ => fun u v => pe_cmpR h1 u v hm) h2 (fun _ _ _ => okne) ha hb
/-- as a test -/
theorem tm_c {op : CmpOp} {T : Ty α} {U : Ty β} {g : α → β → Bool} {fa : S → Res (α × S)} {fb : S → Res (β × S)} (c : Cmp X op T U g) (hm : behindInMarks op b = false) (ha : EM XR W X p1 G a (fz T) fa) (hb : EM XR W X p2 G b (fz U) fb) :
    TM XR W X (p1 && p2) G (.Compare a [op] [b] pos) (fun s => (fa s).bind fun r1 => (fb r1.2).bind fun r2 => .ok (g r1.1 r2.1, r2.2)) := by
  obtain ⟨r, h1, ho⟩ := c.ex
  obtain ⟨ta, hta, ha⟩ := ha
  obtain ⟨tb, htb, hb⟩ := hb
  refine ⟨_, pt_cmpR h1 hta htb hm, fun s F σ H A Q g' k w => ha s F σ H A _ g' k (WPE.bindT w fun x s1 v F1 H1 B A1 ⟨rB, r1⟩ g1 e1 q1 w => ?_)⟩
  subst rB
  refine hb s1 F1 σ H1 A1 _ g1 e1.holds ?_
  cases q : fb s1 with
  | bad => rw [q] at w; exact w
  | er ex => rw [q] at w; exact fun cls oe F' H' A' h1 h2 => w cls oe F' H' A' h1 (e1.trans h2)
  | ok ys =>
    obtain ⟨y, s2⟩ := ys
    rw [q] at w
    rintro u F2 H2 B A2 ⟨rB, r2⟩ g2 e2 q2
    subst rB
    refine ho F2 H2 v u x y _ (T.mono r1 e2.fz) r2 e2.holds.fz (fun z ez w' F' H' B hr ex => ?_) (by intro h; cases h) (fun _ => okne)
    obtain ⟨rB, rw'⟩ := hr
    cases ez
    subst rB
    exact ⟨_, rw', w F' H' A2 (G.mono g2 ex.fz) ((e1.trans e2).trans (ext_nil e2.holds ex)) fun hp => by
      simp only [Bool.and_eq_true] at hp
      exact ⟨(q2 hp.2).1.trans (q1 hp.1).1, (q2 hp.2).2.trans (q1 hp.1).2⟩⟩
/-- a < b < c and its like -/
theorem tm_chain {op op' : CmpOp} {T : Ty α} {U : Ty β} {V' : Ty γ} {g : α → β → Bool} {g' : β → γ → Bool} {fa : S → Res (α × S)} {fb : S → Res (β × S)} {fc : S → Res (γ × S)} (c1 : Cmp X op T U g) (c2 : Cmp X op' U V' g') 
    (ha : EM XR W X p1 G a (fz T) fa) (hb : EM XR W X p2 G b (fz U) fb) (hc : EM XR W X p3 G c (fz V') fc) 
    (mk : ∀ r r' ta tb tc, OpR X (compareOp op) r → OpR X (compareOp op') r' → PE X a ta → PE X b tb → PE X c tc → PE X e (tChain r r' ta tb tc)) :
    EM XR W X (p1 && (p2 && p3)) G e (fz tBool) (fun s => (fa s).bind fun r1 => (fb r1.2).bind fun r2 => if g r1.1 r2.1 then (fc r2.2).bind fun r3 => .ok (g' r2.1 r3.1, r3.2) else .ok (false, r2.2)) := by
  obtain ⟨r, h1, ho⟩ := c1.ex
  obtain ⟨r', h1', ho'⟩ := c2.ex
  obtain ⟨ta, hta, ha⟩ := ha
  obtain ⟨tb, htb, hb⟩ := hb
  obtain ⟨tc, htc, hc⟩ := hc
  refine ⟨_, mk _ _ _ _ _ h1 h1' hta htb htc, fun s F σ H A Q gg k w => ha s F σ H A _ gg k (WPE.bind w fun x s1 v F1 H1 B A1 ⟨rB, r1⟩ g1 e1 q1 w => ?_)⟩
  subst rB
  refine hb s1 F1 σ H1 A1 _ g1 e1.holds ?_
  cases q : fb s1 with
  | bad => rw [q] at w; exact w
  | er ex => rw [q] at w; exact fun cls oe F' H' A' h1 h2 => w cls oe F' H' A' h1 (e1.trans h2)
  | ok ys =>
    obtain ⟨y, s2⟩ := ys
    rw [q] at w
    rintro u F2 H2 B A2 ⟨rB, r2⟩ g2 e2 q2
    subst rB
    refine ho F2 H2 v u x y _ (T.mono r1 e2.fz) r2 e2.holds.fz (fun z ez w' F3 H3 B hr ex => ?_) (by intro h; cases h) (fun _ => okne)
    obtain ⟨rB, rw'⟩ := hr
    cases ez
    subst rB
    have e3 := e2.trans (ext_nil e2.holds ex)
    refine ⟨_, rw', ?_⟩
    simp only [Res.bind_ok] at w
    by_cases hg : g x y = true
    · rw [if_pos hg] at w ⊢
      refine hc s2 F3 σ H3 A2 _ (G.mono g2 ex.fz) e3.holds ?_
      cases q3 : fc s2 with
      | bad => rw [q3] at w; exact w
      | er ex => rw [q3] at w; exact fun cls oe F' H' A' h1 h2 => w cls oe F' H' A' h1 ((e1.trans e3).trans h2)
      | ok zs =>
        obtain ⟨z, s3⟩ := zs
        rw [q3] at w
        rintro uz F4 H4 B A4 ⟨rB, r4⟩ g4 e4 q4
        subst rB
        refine ho' F4 H4 u uz y z _ (U.mono (U.mono r2 ex.fz) e4.fz) r4 e4.holds.fz (fun z' ez w'' F5 H5 B hr ex5 => ?_) (by intro h; cases h) (fun _ => okne)
        cases ez
        exact w w'' F5 H5 B A4 hr (G.mono g4 ex5.fz) ((e1.trans (e3.trans e4)).trans (ext_nil e4.holds ex5)) fun hp => by
          simp only [Bool.and_eq_true] at hp
          exact ⟨(q4 hp.2.2).1.trans ((q2 hp.2.1).1.trans (q1 hp.1).1), (q4 hp.2.2).2.trans ((q2 hp.2.1).2.trans (q1 hp.1).2)⟩
    · rw [if_neg hg] at w ⊢
      refine w _ F3 H3 [] A2 ⟨rfl, rfl⟩ (G.mono g2 ex.fz) (e1.trans e3) fun hp => by
          simp only [Bool.and_eq_true] at hp
          exact ⟨(q2 hp.2.1).1.trans (q1 hp.1).1, (q2 hp.2.1).2.trans (q1 hp.1).2⟩

/-! ### is None -/
theorem em_isN {j : Nat} {pos' : Pos} {T : Ty α} {fa : S → Res (Option α × S)} (ha : EM XR W X p G a (fz (tOpt T)) fa) : EM XR W X p G (.Compare a [.Is] [.Constant .none j pos'] pos) (fz tBool) (fun s => (fa s).bind fun r => .ok (r.1.isNone, r.2)) := by
  obtain ⟨ta, hta, ha⟩ := ha
  refine ⟨_, pe_cmp (pc_isN hta) (by first | exact nobehind _ (by decide) (by decide) | rfl), fun s F σ H A Q g k w => ha s F σ H A _ g k (WPE.bind w fun x s1 v F1 H1 B A1 ⟨rB, r1⟩ g1 e1 q1 w => ?_)⟩
  subst rB
  refine w _ F1 H1 [] A1 ⟨rfl, ?_⟩ g1 e1 q1
  cases x with
  | none => have r1 : v = .non := r1; rw [r1]; rfl
  | some y => have r1 : v ≠ .non ∧ T.R F1 v y := r1; show V.bl (decide (v = .non)) = V.bl false; rw [decide_eq_false r1.1]
theorem em_notN {j : Nat} {pos' : Pos} {T : Ty α} {fa : S → Res (Option α × S)} (ha : EM XR W X p G a (fz (tOpt T)) fa) : EM XR W X p G (.Compare a [.IsNot] [.Constant .none j pos'] pos) (fz tBool) (fun s => (fa s).bind fun r => .ok (r.1.isSome, r.2)) := by
  obtain ⟨ta, hta, ha⟩ := ha
  refine ⟨_, pe_cmp (pc_notN hta) (by first | exact nobehind _ (by decide) (by decide) | rfl), fun s F σ H A Q g k w => ha s F σ H A _ g k (WPE.bind w fun x s1 v F1 H1 B A1 ⟨rB, r1⟩ g1 e1 q1 w => ?_)⟩
  subst rB
  refine w _ F1 H1 [] A1 ⟨rfl, ?_⟩ g1 e1 q1
  cases x with
  | none => have r1 : v = .non := r1; rw [r1]; rfl
  | some y => have r1 : v ≠ .non ∧ T.R F1 v y := r1; show V.bl (!decide (v = .non)) = V.bl true; rw [decide_eq_false r1.1]; rfl

/-! ### tests -/
/-- a truth value as a test -/
theorem tm_val {f : S → Res (Bool × S)} (h : EM XR W X p G e (fz tBool) f) (he : ∀ whole, isTrue e X.env whole = (do let v ← whole; standAt e.pos; holding [v] (truthy v)) := by intro _; rfl) : TM XR W X p G e f := by
  obtain ⟨t, ht, h⟩ := h
  refine ⟨_, pt_val ht he, fun s F σ H A Q g k w => h s F σ H A _ g k ?_⟩
  cases q : f s with
  | bad => rw [q] at w; exact w
  | er ex => rw [q] at w; exact w
  | ok xs =>
    obtain ⟨x, s1⟩ := xs
    rw [q] at w
    rintro v F1 H1 B A1 ⟨rB, r1⟩ g1 e1 q1
    subst rB
    exact ⟨x, r1, w F1 H1 A1 g1 e1 q1⟩
/-- a test that is a comparison of another form (is None) -/
theorem tm_isN {j : Nat} {pos' : Pos} {T : Ty α} {fa : S → Res (Option α × S)} (ha : EM XR W X p G a (fz (tOpt T)) fa) : TM XR W X p G (.Compare a [.Is] [.Constant .none j pos'] pos) (fun s => (fa s).bind fun r => .ok (r.1.isNone, r.2)) := by
  obtain ⟨ta, hta, ha⟩ := ha
  refine ⟨_, pt_cmp (pc_isN hta) (by first | exact nobehind _ (by decide) (by decide) | rfl), fun s F σ H A Q g k w => ha s F σ H A _ g k (WPE.bindT w fun x s1 v F1 H1 B A1 ⟨rB, r1⟩ g1 e1 q1 w => ?_)⟩
  subst rB
  refine ⟨x.isNone, ?_, w F1 H1 A1 g1 e1 q1⟩
  cases x with
  | none => have r1 : v = .non := r1; rw [r1]; rfl
  | some y => have r1 : v ≠ .non ∧ T.R F1 v y := r1; show V.bl (decide (v = .non)) = V.bl false; rw [decide_eq_false r1.1]
theorem tm_notN {j : Nat} {pos' : Pos} {T : Ty α} {fa : S → Res (Option α × S)} (ha : EM XR W X p G a (fz (tOpt T)) fa) : TM XR W X p G (.Compare a [.IsNot] [.Constant .none j pos'] pos) (fun s => (fa s).bind fun r => .ok (r.1.isSome, r.2)) := by
  obtain ⟨ta, hta, ha⟩ := ha
  refine ⟨_, pt_cmp (pc_notN hta) (by first | exact nobehind _ (by decide) (by decide) | rfl), fun s F σ H A Q g k w => ha s F σ H A _ g k (WPE.bindT w fun x s1 v F1 H1 B A1 ⟨rB, r1⟩ g1 e1 q1 w => ?_)⟩
  subst rB
  refine ⟨x.isSome, ?_, w F1 H1 A1 g1 e1 q1⟩
  cases x with
  | none => have r1 : v = .non := r1; rw [r1]; rfl
  | some y => have r1 : v ≠ .non ∧ T.R F1 v y := r1; show V.bl (!decide (v = .non)) = V.bl true; rw [decide_eq_false r1.1]; rfl
theorem tm_not {f : S → Res (Bool × S)} (h : TM XR W X p G e f) : TM XR W X p G (.UnaryOp .Not e pos) (fun s => (f s).bind fun r => .ok (!r.1, r.2)) := by
  obtain ⟨t, ht, h⟩ := h
  exact ⟨_, pt_not ht, fun s F σ H A Q g k w => h s F σ H A _ g k (WPT.bind w fun x s1 F1 H1 A1 g1 e1 q1 w => w F1 H1 A1 g1 e1 q1)⟩
theorem tm_b {f : S → Res (Bool × S)} (h : BM XR W X p G e f) : TM XR W X p G e f := by
  obtain ⟨t, ht, h⟩ := h
  exact ⟨t, ht.pt, h⟩
theorem bm_and1 {f : S → Res (Bool × S)} (h : TM XR W X p G e f) : BM XR W X p G (.BoolOp .And [e] pos) f := by
  obtain ⟨t, ht, h⟩ := h
  exact ⟨t, pw_and1 ht, h⟩
theorem bm_or1 {f : S → Res (Bool × S)} (h : TM XR W X p G e f) : BM XR W X p G (.BoolOp .Or [e] pos) f := by
  obtain ⟨t, ht, h⟩ := h
  exact ⟨t, pw_or1 ht, h⟩
theorem bm_and {f g : S → Res (Bool × S)} (h : TM XR W X p1 G a f) (h' : BM XR W X p2 G (.BoolOp .And (b :: es) pos) g) : BM XR W X (p1 && p2) G (.BoolOp .And (a :: b :: es) pos) (fun s => (f s).bind fun r => if r.1 then g r.2 else .ok (false, r.2)) := by
  obtain ⟨t, ht, h⟩ := h
  obtain ⟨u, hu, h'⟩ := h'
  refine ⟨_, pw_and ht hu, fun s F σ H A Q gg k w => h s F σ H A _ gg k (WPT.bind w fun x s1 F1 H1 A1 g1 e1 q1 w => ?_)⟩
  cases x with
  | false =>
    rw [if_neg Bool.false_ne_true]
    exact w F1 H1 A1 g1 e1 fun hp => q1 (Bool.and_eq_true_iff.mp hp).1
  | true =>
    rw [if_pos rfl]
    simp only [if_pos] at w
    refine h' s1 F1 σ H1 A1 _ g1 e1.holds ?_
    cases q : g s1 with
    | bad => rw [q] at w; exact w
    | er ex => rw [q] at w; exact fun cls oe F' H' A' h1 h2 => w cls oe F' H' A' h1 (e1.trans h2)
    | ok ys =>
      obtain ⟨y, s2⟩ := ys
      rw [q] at w
      exact fun F2 H2 A2 g2 e2 q2 => w F2 H2 A2 g2 (e1.trans e2) fun hp => ⟨(q2 (Bool.and_eq_true_iff.mp hp).2).1.trans (q1 (Bool.and_eq_true_iff.mp hp).1).1, (q2 (Bool.and_eq_true_iff.mp hp).2).2.trans (q1 (Bool.and_eq_true_iff.mp hp).1).2⟩
theorem bm_or {f g : S → Res (Bool × S)} (h : TM XR W X p1 G a f) (h' : BM XR W X p2 G (.BoolOp .Or (b :: es) pos) g) : BM XR W X (p1 && p2) G (.BoolOp .Or (a :: b :: es) pos) (fun s => (f s).bind fun r => if r.1 then .ok (true, r.2) else g r.2) := by
  obtain ⟨t, ht, h⟩ := h
  obtain ⟨u, hu, h'⟩ := h'
  refine ⟨_, pw_or ht hu, fun s F σ H A Q gg k w => h s F σ H A _ gg k (WPT.bind w fun x s1 F1 H1 A1 g1 e1 q1 w => ?_)⟩
  cases x with
  | true =>
    rw [if_pos rfl]
    exact w F1 H1 A1 g1 e1 fun hp => q1 (Bool.and_eq_true_iff.mp hp).1
  | false =>
    rw [if_neg Bool.false_ne_true]
    simp only [Bool.false_eq_true, if_false] at w
    refine h' s1 F1 σ H1 A1 _ g1 e1.holds ?_
    cases q : g s1 with
    | bad => rw [q] at w; exact w
    | er ex => rw [q] at w; exact fun cls oe F' H' A' h1 h2 => w cls oe F' H' A' h1 (e1.trans h2)
    | ok ys =>
      obtain ⟨y, s2⟩ := ys
      rw [q] at w
      exact fun F2 H2 A2 g2 e2 q2 => w F2 H2 A2 g2 (e1.trans e2) fun hp => ⟨(q2 (Bool.and_eq_true_iff.mp hp).2).1.trans (q1 (Bool.and_eq_true_iff.mp hp).1).1, (q2 (Bool.and_eq_true_iff.mp hp).2).2.trans (q1 (Bool.and_eq_true_iff.mp hp).1).2⟩
/-! ### and, or, not, if-else as values -/
theorem em_one {op : BoolOp} {R : Rl α} {f : S → Res (α × S)} (h : EM XR W X p G e R f) : EM XR W X p G (.BoolOp op [e] pos) R f := by
  obtain ⟨t, ht, h⟩ := h
  exact ⟨t, pe_one ht, h⟩
theorem em_and {f g : S → Res (Bool × S)} (h : EM XR W X p1 G a (fz tBool) f) (h' : EM XR W X p2 G (.BoolOp .And (b :: es) pos) (fz tBool) g) : EM XR W X (p1 && p2) G (.BoolOp .And (a :: b :: es) pos) (fz tBool) (fun s => (f s).bind fun r => if r.1 then g r.2 else .ok (false, r.2)) := by
  obtain ⟨t, ht, h⟩ := h
  obtain ⟨u, hu, h'⟩ := h'
  refine ⟨_, pe_and ht hu, fun s F σ H A Q gg k w => h s F σ H A _ gg k (WPE.bind w fun x s1 v F1 H1 B A1 ⟨rB, r1⟩ g1 e1 q1 w => ?_)⟩
  subst rB
  refine ⟨x, r1, ?_⟩
  cases x with
  | false =>
    rw [if_neg Bool.false_ne_true]
    exact w _ F1 H1 [] A1 ⟨rfl, rfl⟩ g1 e1 fun hp => q1 (Bool.and_eq_true_iff.mp hp).1
  | true =>
    rw [if_pos rfl]
    simp only [if_pos] at w
    refine h' s1 F1 σ H1 A1 _ g1 e1.holds ?_
    cases q : g s1 with
    | bad => rw [q] at w; exact w
    | er ex => rw [q] at w; exact fun cls oe F' H' A' h1 h2 => w cls oe F' H' A' h1 (e1.trans h2)
    | ok ys =>
      obtain ⟨y, s2⟩ := ys
      rw [q] at w
      exact fun v2 F2 H2 B2 A2 r2 g2 e2 q2 => w v2 F2 H2 B2 A2 r2 g2 (e1.trans e2) fun hp => ⟨(q2 (Bool.and_eq_true_iff.mp hp).2).1.trans (q1 (Bool.and_eq_true_iff.mp hp).1).1, (q2 (Bool.and_eq_true_iff.mp hp).2).2.trans (q1 (Bool.and_eq_true_iff.mp hp).1).2⟩
theorem em_or {f g : S → Res (Bool × S)} (h : EM XR W X p1 G a (fz tBool) f) (h' : EM XR W X p2 G (.BoolOp .Or (b :: es) pos) (fz tBool) g) : EM XR W X (p1 && p2) G (.BoolOp .Or (a :: b :: es) pos) (fz tBool) (fun s => (f s).bind fun r => if r.1 then .ok (true, r.2) else g r.2) := by
  obtain ⟨t, ht, h⟩ := h
  obtain ⟨u, hu, h'⟩ := h'
  refine ⟨_, pe_or ht hu, fun s F σ H A Q gg k w => h s F σ H A _ gg k (WPE.bind w fun x s1 v F1 H1 B A1 ⟨rB, r1⟩ g1 e1 q1 w => ?_)⟩
  subst rB
  refine ⟨x, r1, ?_⟩
  cases x with
  | true =>
    rw [if_pos rfl]
    exact w _ F1 H1 [] A1 ⟨rfl, rfl⟩ g1 e1 fun hp => q1 (Bool.and_eq_true_iff.mp hp).1
  | false =>
    rw [if_neg Bool.false_ne_true]
    simp only [Bool.false_eq_true, if_false] at w
    refine h' s1 F1 σ H1 A1 _ g1 e1.holds ?_
    cases q : g s1 with
    | bad => rw [q] at w; exact w
    | er ex => rw [q] at w; exact fun cls oe F' H' A' h1 h2 => w cls oe F' H' A' h1 (e1.trans h2)
    | ok ys =>
      obtain ⟨y, s2⟩ := ys
      rw [q] at w
      exact fun v2 F2 H2 B2 A2 r2 g2 e2 q2 => w v2 F2 H2 B2 A2 r2 g2 (e1.trans e2) fun hp => ⟨(q2 (Bool.and_eq_true_iff.mp hp).2).1.trans (q1 (Bool.and_eq_true_iff.mp hp).1).1, (q2 (Bool.and_eq_true_iff.mp hp).2).2.trans (q1 (Bool.and_eq_true_iff.mp hp).1).2⟩
theorem em_not {f : S → Res (Bool × S)} (h : EM XR W X p G e (fz tBool) f) : EM XR W X p G (.UnaryOp .Not e pos) (fz tBool) (fun s => (f s).bind fun r => .ok (!r.1, r.2)) := by
  obtain ⟨t, ht, h⟩ := h
  refine ⟨_, pe_not ht, fun s F σ H A Q g k w => h s F σ H A _ g k (WPE.bind w fun x s1 v F1 H1 B A1 ⟨rB, r1⟩ g1 e1 q1 w => ?_)⟩
  subst rB
  exact ⟨x, r1, w _ F1 H1 [] A1 ⟨rfl, rfl⟩ g1 e1 q1⟩
theorem em_if {R : Rl α} {f : S → Res (Bool × S)} {ga gb : S → Res (α × S)} (h : TM XR W X p1 G c f) (ha : EM XR W X p2 G a R ga) (hb : EM XR W X p3 G b R gb) :
    EM XR W X (p1 && (p2 && p3)) G (.IfExp c a b pos) R (fun s => (f s).bind fun r => if r.1 then ga r.2 else gb r.2) := by
  obtain ⟨t, ht, h⟩ := h
  obtain ⟨u, hu, ha⟩ := ha
  obtain ⟨v, hv, hb⟩ := hb
  refine ⟨_, pe_ifExp ht hu hv, fun s F σ H A Q gg k w => h s F σ H A _ gg k (WPT.bindE w fun x s1 F1 H1 A1 g1 e1 q1 w => ?_)⟩
  cases x with
  | true =>
    rw [if_pos rfl]
    simp only [if_pos] at w
    refine ha s1 F1 σ H1 A1 _ g1 e1.holds ?_
    cases q : ga s1 with
    | bad => rw [q] at w; exact w
    | er ex => rw [q] at w; exact fun cls oe F' H' A' h1 h2 => w cls oe F' H' A' h1 (e1.trans h2)
    | ok ys =>
      obtain ⟨y, s2⟩ := ys
      rw [q] at w
      exact fun v2 F2 H2 B2 A2 r2 g2 e2 q2 => w v2 F2 H2 B2 A2 r2 g2 (e1.trans e2) fun hp => by
        simp only [Bool.and_eq_true] at hp
        exact ⟨(q2 hp.2.1).1.trans (q1 hp.1).1, (q2 hp.2.1).2.trans (q1 hp.1).2⟩
  | false =>
    rw [if_neg Bool.false_ne_true]
    simp only [Bool.false_eq_true, if_false] at w
    refine hb s1 F1 σ H1 A1 _ g1 e1.holds ?_
    cases q : gb s1 with
    | bad => rw [q] at w; exact w
    | er ex => rw [q] at w; exact fun cls oe F' H' A' h1 h2 => w cls oe F' H' A' h1 (e1.trans h2)
    | ok ys =>
      obtain ⟨y, s2⟩ := ys
      rw [q] at w
      exact fun v2 F2 H2 B2 A2 r2 g2 e2 q2 => w v2 F2 H2 B2 A2 r2 g2 (e1.trans e2) fun hp => by
        simp only [Bool.and_eq_true] at hp
        exact ⟨(q2 hp.2.2).1.trans (q1 hp.1).1, (q2 hp.2.2).2.trans (q1 hp.1).2⟩
end
end TC
namespace TC
open PySem PySem.Spec PyProof.Rows L2

/-- an item at an index -/
def mIx {α : Type} (xs : List α) (i : Int) : Res α := match atI xs i with
  | some x => .ok x
  | none => .bad
theorem mIx_ne {α : Type} {xs : List α} {i : Int} {ex : Ex} : mIx xs i ≠ .er ex := by unfold mIx; split <;> (intro h; cases h)
theorem ixN_lt {n : Nat} {i : Int} {j : Nat} (h : ixN n i = some j) : j < n := (ixN_seq h).2.1
theorem All2.atI {α : Type} {R : V → α → Prop} {vs : List V} {xs : List α} {i : Int} {x : α} (h : All2 R vs xs) (e : L2.atI xs i = some x) : ∃ v, L2.atI vs i = some v ∧ R v x := by
  unfold L2.atI at e ⊢
  rw [h.length]
  cases q : ixN xs.length i with
  | none => rw [q] at e; cases e
  | some j =>
    rw [q] at e
    exact h.get e
/-- the item is stored -/
def mSet {α : Type} (xs : List α) (i : Int) (x : α) : Res (List α) := match ixN xs.length i with
  | some j => .ok (xs.set j x)
  | none => .bad
def mApp {α : Type} (xs : List α) (x : α) : Res (List α) := if xs.length < sizeLine then .ok (xs ++ [x]) else .bad
def mCat {α : Type} (xs ys : List α) : Res (List α) := if xs.length + ys.length ≤ sizeLine then .ok (xs ++ ys) else .bad

section
variable {XR : XRel} {W : WX} {X : Cx} {S S' S2 L ρ : Type} {G : Ctx S} {G' : Ctx S'} {G2 : Ctx S2} {α β γ : Type} {e a b c : Expr} {es : List Expr} {pos : Pos} {p p1 p2 p3 : Bool}

/-! ### items -/
theorem o2_ixL {K : PySem.W.Frag} {T : Ty α} : Op2 (rIxL K) (tLst T) tInt mIx (fz T) := fun F H v u x y Q ⟨a, vs, ev, q, r⟩ ru s h nb _ => by
  unfold mIx at h nb
  cases e : atI x y with
  | none => rw [e] at nb; exact absurd rfl nb
  | some z =>
    obtain ⟨w, h1, h2⟩ := r.atI e
    rw [e] at h
    exact ⟨a, vs, y, w, ev, ru, SqL.of (s _ _ q), h1, h z rfl w F H [] ⟨rfl, h2⟩ (Ext.refl (holds_nil s))⟩
theorem o2_ixT {K : PySem.W.Frag} {T : Ty α} : Op2 (rIxT K) (tTup T) tInt mIx (fz T) := fun F H v u x y Q ⟨a, vs, ev, q, r⟩ ru s h nb _ => by
  unfold mIx at h nb
  cases e : atI x y with
  | none => rw [e] at nb; exact absurd rfl nb
  | some z =>
    obtain ⟨w, h1, h2⟩ := r.atI e
    rw [e] at h
    exact ⟨a, vs, y, w, ev, ru, SqT.of (s _ _ q), h1, h z rfl w F H [] ⟨rfl, h2⟩ (Ext.refl (holds_nil s))⟩
section
variable {T : Ty α} {fa : S → Res (List α × S)} {fb : S → Res (Int × S)}
theorem em_ixL (hs : PlainIx b) (ha : EM XR W X p1 G a (fz (tLst T)) fa) (hb : EM XR W X p2 G b (fz tInt) fb) : EM XR W X (p1 && p2) G (.Subscript a b pos) (fz T) (fun s => (fa s).bind fun r1 => (fb r1.2).bind fun r2 => (mIx r1.1 r2.1).bind fun z => .ok (z, r2.2)) :=
  em_op2 (fun _ _ u v => pe_ix ix_list u v hs) o2_ixL (fun _ _ _ => mIx_ne) ha hb
theorem em_ixT (hs : PlainIx b) (ha : EM XR W X p1 G a (fz (tTup T)) fa) (hb : EM XR W X p2 G b (fz tInt) fb) : EM XR W X (p1 && p2) G (.Subscript a b pos) (fz T) (fun s => (fa s).bind fun r1 => (fb r1.2).bind fun r2 => (mIx r1.1 r2.1).bind fun z => .ok (z, r2.2)) :=
  em_op2 (fun _ _ u v => pe_ix ix_tup u v hs) o2_ixT (fun _ _ _ => mIx_ne) ha hb
end
/-- an item of an owned list that stands in a slot -/
theorem em_ixO {T : Ty α} {fb : S → Res (Int × S)} {i : Nat} {x : Str} {get : S → List α} {put : S → List α → S} {pp : Pos} (hN : X.N[i]? = some x) (hv : Vis X.env.scope x) {sl : Sl (List α)} [os : OL T sl] (at_ : At G i sl get sl G put) (hs : PlainIx b) (hb : EM XR W X p2 G b (fz tInt) fb)
    (hd : (x == ("__debug__" : Str)) = false := by decide) (hcd : (x == ("__classdict__" : Str)) = false := by decide) :
    EM XR W X p2 G (.Subscript (.Name x pp) b pos) (fz T) (fun s => (fb s).bind fun r2 => (mIx (get r2.2) r2.1).bind fun z => .ok (z, r2.2)) := by
  obtain ⟨tb, htb, hb⟩ := hb
  refine ⟨_, pe_ix ix_list (pe_var hN hv hd hcd) htb hs, fun s F σ H A Q g k w => ?_⟩
  obtain ⟨o, L, B, R, e1, e2, hsl, _⟩ := at_.at_ s F σ A g
  obtain ⟨a, vs, rfl, e4, r, _⟩ := os.opn hsl
  refine ⟨.ref a, e1, hb s F σ H A _ g k (WPE.bind w fun y s1 u F1 H1 B1 A1 ⟨rB, r1⟩ g1 x1 q1 w => ?_)⟩
  subst rB
  obtain ⟨o', L', B', R', e1', e2', hsl', _⟩ := at_.at_ s1 F1 σ A1 g1
  obtain ⟨a', vs', rfl, e4', r', _⟩ := os.opn hsl'
  rw [e1] at e1'
  cases e1'
  subst e4'
  unfold mIx at w
  cases e : atI (get s1) y with
  | none => rw [e] at w; exact w.elim
  | some z =>
    obtain ⟨u', h1, h2⟩ := r'.atI e
    rw [e] at w
    have hl : H1 a = some (.lst vs') := (x1.holds.ow (a, .lst vs') (by rw [e2']; simp)).2
    exact ⟨a, vs', y, u', rfl, r1, SqL.of hl, h1, w u' F1 H1 [] A1 ⟨rfl, h2⟩ g1 x1 q1⟩
/-- t[0], t[1] of a pair -/
theorem o2_p0 {K : PySem.W.Frag} {T : Ty α} {U : Ty β} : Op1 (fun v H Q => rIxT K v (.int 0) H Q) (tP2 T U) (fun x => .ok x.1) (fz T) := fun F H v x Q ⟨a, v1, v2, ev, q, r1, r2⟩ s h _ _ =>
  ⟨a, _, 0, v1, ev, rfl, SqT.of (s _ _ q), rfl, h _ rfl v1 F H [] ⟨rfl, r1⟩ (Ext.refl (holds_nil s))⟩
theorem o2_p1 {K : PySem.W.Frag} {T : Ty α} {U : Ty β} : Op1 (fun v H Q => rIxT K v (.int 1) H Q) (tP2 T U) (fun x => .ok x.2) (fz U) := fun F H v x Q ⟨a, v1, v2, ev, q, r1, r2⟩ s h _ _ =>
  ⟨a, _, 1, v2, ev, rfl, SqT.of (s _ _ q), rfl, h _ rfl v2 F H [] ⟨rfl, r2⟩ (Ext.refl (holds_nil s))⟩
theorem em_p0 {T : Ty α} {U : Ty β} {fa : S → Res ((α × β) × S)} {j : Nat} {pp : Pos} (ha : EM XR W X p G a (fz (tP2 T U)) fa) : EM XR W X p G (.Subscript a (.Constant (.int 0) j pp) pos) (fz T) (fun s => (fa s).bind fun r => .ok (r.1.1, r.2)) :=
  em_op1 (r := fun v H Q => rIxT X.K v (.int 0) H Q) (fun _ u => pe_ix ix_tup u pe_int (fun _ _ => rfl)) o2_p0 (fun _ _ => okne) ha
theorem em_p1 {T : Ty α} {U : Ty β} {fa : S → Res ((α × β) × S)} {j : Nat} {pp : Pos} (ha : EM XR W X p G a (fz (tP2 T U)) fa) : EM XR W X p G (.Subscript a (.Constant (.int 1) j pp) pos) (fz U) (fun s => (fa s).bind fun r => .ok (r.1.2, r.2)) :=
  em_op1 (r := fun v H Q => rIxT X.K v (.int 1) H Q) (fun _ u => pe_ix ix_tup u pe_int (fun _ _ => rfl)) o2_p1 (fun _ _ => okne) ha
section
variable {T : Ty α} {U : Ty β} {V' : Ty γ} {fa : S → Res ((α × β × γ) × S)} {j : Nat} {pp : Pos} (ha : EM XR W X p G a (fz (tP3 T U V')) fa)
include ha
theorem em_t0 : EM XR W X p G (.Subscript a (.Constant (.int 0) j pp) pos) (fz T) (fun s => (fa s).bind fun r => .ok (r.1.1, r.2)) :=
  em_op1 (T := tP3 T U V') (r := fun v H Q => rIxT X.K v (.int 0) H Q) (g := fun x => .ok x.1) (fun _ u => pe_ix ix_tup u pe_int (fun _ _ => rfl)) (fun F H v x Q ⟨a, v1, v2, v3, ev, q, r1, r2, r3⟩ s h _ _ => ⟨a, _, 0, v1, ev, rfl, SqT.of (s _ _ q), rfl, h _ rfl v1 F H [] ⟨rfl, r1⟩ (Ext.refl (holds_nil s))⟩) (fun _ _ => okne) ha
theorem em_t1 : EM XR W X p G (.Subscript a (.Constant (.int 1) j pp) pos) (fz U) (fun s => (fa s).bind fun r => .ok (r.1.2.1, r.2)) :=
  em_op1 (T := tP3 T U V') (r := fun v H Q => rIxT X.K v (.int 1) H Q) (g := fun x => .ok x.2.1) (fun _ u => pe_ix ix_tup u pe_int (fun _ _ => rfl)) (fun F H v x Q ⟨a, v1, v2, v3, ev, q, r1, r2, r3⟩ s h _ _ => ⟨a, _, 1, v2, ev, rfl, SqT.of (s _ _ q), rfl, h _ rfl v2 F H [] ⟨rfl, r2⟩ (Ext.refl (holds_nil s))⟩) (fun _ _ => okne) ha
theorem em_t2 : EM XR W X p G (.Subscript a (.Constant (.int 2) j pp) pos) (fz V') (fun s => (fa s).bind fun r => .ok (r.1.2.2, r.2)) :=
  em_op1 (T := tP3 T U V') (r := fun v H Q => rIxT X.K v (.int 2) H Q) (g := fun x => .ok x.2.2) (fun _ u => pe_ix ix_tup u pe_int (fun _ _ => rfl)) (fun F H v x Q ⟨a, v1, v2, v3, ev, q, r1, r2, r3⟩ s h _ _ => ⟨a, _, 2, v3, ev, rfl, SqT.of (s _ _ q), rfl, h _ rfl v3 F H [] ⟨rfl, r3⟩ (Ext.refl (holds_nil s))⟩) (fun _ _ => okne) ha
end

/-! ### len, list(), tuple(), int() -/
theorem o1_len {K : PySem.W.Frag} {T : Ty α} : Op1 (fun v H Q => (fun (xs : List V) (H : Hp) (Q : VK) => ∃ p ys, xs = [.ref p] ∧ (SqL K H p ys ∨ SqT K H p ys) ∧ Q (.int ys.length) H) [v] H Q) (tLst T) (fun x => .ok (x.length : Int)) (fz tInt) := fun F H v x Q ⟨a, vs, ev, q, r⟩ s h _ _ => by
  subst ev
  exact ⟨a, vs, rfl, .inl (SqL.of (s _ _ q)), h _ rfl _ F H [] ⟨rfl, by rw [r.length]; rfl⟩ (Ext.refl (holds_nil s))⟩
theorem o1_lenT {K : PySem.W.Frag} {T : Ty α} : Op1 (fun v H Q => (fun (xs : List V) (H : Hp) (Q : VK) => ∃ p ys, xs = [.ref p] ∧ (SqL K H p ys ∨ SqT K H p ys) ∧ Q (.int ys.length) H) [v] H Q) (tTup T) (fun x => .ok (x.length : Int)) (fz tInt) := fun F H v x Q ⟨a, vs, ev, q, r⟩ s h _ _ => by
  subst ev
  exact ⟨a, vs, rfl, .inr (SqT.of (s _ _ q)), h _ rfl _ F H [] ⟨rfl, by rw [r.length]; rfl⟩ (Ext.refl (holds_nil s))⟩
section
variable {T : Ty α} {fa : S → Res (List α × S)} {pp : Pos}
theorem em_len (hg : Gl X "len") (hm : X.mg "len" = none) (ha : EM XR W X p G a (fz (tLst T)) fa) (hs : starEach [a] X.env = [(false, eval a X.env)] := by rfl) : EM XR W X p G (.Call (.Name "len" pp) [a] [] pos) (fz tInt) (fun s => (fa s).bind fun r1 => .ok ((r1.1.length : Int), r1.2)) :=
  em_callB call_len_seq hg hm PySem.boot_len o1_len (fun _ _ => okne) ha hs
theorem em_lenT (hg : Gl X "len") (hm : X.mg "len" = none) (ha : EM XR W X p G a (fz (tTup T)) fa) (hs : starEach [a] X.env = [(false, eval a X.env)] := by rfl) : EM XR W X p G (.Call (.Name "len" pp) [a] [] pos) (fz tInt) (fun s => (fa s).bind fun r1 => .ok ((r1.1.length : Int), r1.2)) :=
  em_callB call_len_seq hg hm PySem.boot_len o1_lenT (fun _ _ => okne) ha hs
end
/-- a built-in of an owned list that stands in a slot: the list is read where it stands -/
theorem em_callO {P : Prop} {T : Ty α} {i : Nat} {x y : Str} {get : S → List α} {put : S → List α → S} {pp pq : Pos} {R : Rl γ} {g : List α → Res γ} {te : List V → Hp → VK → Prop} (hN : X.N[i]? = some x) (hv : Vis X.env.scope x) {sl : Sl (List α)} [os : OL T sl] (at_ : At G i sl get sl G put)
    (mk : ∀ tn, PE X (.Name x pq) tn → PE X (.Call (.Name y pp) [.Name x pq] [] pos) (tCB te (tCons tn tNil)))
    (ho : ∀ F H a vs xs (Q : VK), All2 (T.R F) vs xs → H a = some (.lst vs) → Same F H → (∀ z, g xs = .ok z → ∀ w F' H' B, R.P F' w z B → Ext F H [] F' H' B → Q w H') → g xs ≠ .bad → (∀ ex, g xs ≠ .er ex) → te [.ref a] H Q) (ne : ∀ xs ex, g xs ≠ .er ex)
    (hd : (x == ("__debug__" : Str)) = false := by decide) (hcd : (x == ("__classdict__" : Str)) = false := by decide) :
    EM XR W X true G (.Call (.Name y pp) [.Name x pq] [] pos) R (fun s => (g (get s)).bind fun z => .ok (z, s)) := by
  refine ⟨_, mk _ (pe_var hN hv hd hcd), fun s F σ H A Q gg k w => ?_⟩
  obtain ⟨o, L, B, R', e1, e2, hsl, _⟩ := at_.at_ s F σ A gg
  obtain ⟨a, vs, rfl, e4, r, _⟩ := os.opn hsl
  subst e4
  have hl : H a = some (.lst vs) := (k.ow (a, .lst vs) (by rw [e2]; simp)).2
  refine ⟨.ref a, e1, ho F H a vs (get s) Q r hl k.fz (fun z ez w' F' H' B' hr ex => ?_) (fun q => ?_) (ne _)⟩
  · dsimp only at w; rw [ez] at w
    exact w w' F' H' B' A hr (G.mono gg ex.fz) (ext_nil k ex) fun _ => ⟨rfl, rfl⟩
  · dsimp only at w; rw [q] at w; exact w
theorem em_lenO {T : Ty α} {i : Nat} {x : Str} {get : S → List α} {put : S → List α → S} {pp pq : Pos} (hg : Gl X "len") (hm : X.mg "len" = none) (hN : X.N[i]? = some x) (hv : Vis X.env.scope x) {sl : Sl (List α)} [os : OL T sl] (at_ : At G i sl get sl G put)
    (hd : (x == ("__debug__" : Str)) = false := by decide) (hcd : (x == ("__classdict__" : Str)) = false := by decide) : EM XR W X true G (.Call (.Name "len" pp) [.Name x pq] [] pos) (fz tInt) (fun s => .ok (((get s).length : Int), s)) :=
  em_callO (P := True) (g := fun xs => .ok (xs.length : Int)) hN hv at_ (fun tn h => pe_callB call_len_seq hg hm PySem.boot_len (pa_cons h pa_nil)) (fun F H a vs xs Q r hl s h _ _ => ⟨a, vs, rfl, .inl (SqL.of hl), h _ rfl _ F H [] ⟨rfl, by rw [r.length]; rfl⟩ (Ext.refl (holds_nil s))⟩) (fun _ _ => okne) hd hcd
/-- list(..) and tuple(..) -/
theorem lay_list {F H : Hp} {T : Ty α} {vs : List V} {xs : List α} {l : Addr} {Q : VK} (r : All2 (T.R F) vs xs) (s : Same F H) (n : H l = none) (h : ∀ w F' H' B, (oL T).P F' w xs B → Ext F H [] F' H' B → Q w H') : Q (.ref l) (upd H l (.lst vs)) :=
  h _ F _ [(l, .lst vs)] ⟨l, vs, rfl, rfl, r⟩ (Ext.newO (holds_nil s) n)
theorem lay_tup {F H : Hp} {T : Ty α} {vs : List V} {xs : List α} {l : Addr} {Q : VK} (r : All2 (T.R F) vs xs) (s : Same F H) (n : H l = none) (h : ∀ w F' H' B, (fz (tTup T)).P F' w xs B → Ext F H [] F' H' B → Q w H') : Q (.ref l) (upd H l (.tup vs)) := by
  have ex : Ext F H [] (upd F l (.tup vs)) (upd H l (.tup vs)) [] := Ext.newF (holds_nil s) n
  exact h _ _ _ [] ⟨rfl, l, vs, rfl, upd_same, T.all r ex.fz⟩ ex
section
variable {T : Ty α} {fa : S → Res (List α × S)} {pp : Pos}
theorem em_listL (hg : Gl X "list") (hm : X.mg "list" = none) (ha : EM XR W X p G a (fz (tLst T)) fa) (hs : starEach [a] X.env = [(false, eval a X.env)] := by rfl) : EM XR W X p G (.Call (.Name "list" pp) [a] [] pos) (oL T) (fun s => (fa s).bind fun r1 => (Res.ok r1.1).bind fun z => .ok (z, r1.2)) :=
  em_callTy (T := tLst T) (g := fun x => .ok x) call_list_of hg hm (by decide +kernel) (fun F H v x Q ⟨a, vs, ev, q, r⟩ s h _ _ => ⟨a, vs, by rw [ev], .inl (SqL.of (s _ _ q)), fun l n => lay_list r s n (h x rfl)⟩) (fun _ _ => okne) ha hs
theorem em_listT (hg : Gl X "list") (hm : X.mg "list" = none) (ha : EM XR W X p G a (fz (tTup T)) fa) (hs : starEach [a] X.env = [(false, eval a X.env)] := by rfl) : EM XR W X p G (.Call (.Name "list" pp) [a] [] pos) (oL T) (fun s => (fa s).bind fun r1 => (Res.ok r1.1).bind fun z => .ok (z, r1.2)) :=
  em_callTy (T := tTup T) (g := fun x => .ok x) call_list_of hg hm (by decide +kernel) (fun F H v x Q ⟨a, vs, ev, q, r⟩ s h _ _ => ⟨a, vs, by rw [ev], .inr (SqT.of (s _ _ q)), fun l n => lay_list r s n (h x rfl)⟩) (fun _ _ => okne) ha hs
theorem em_tupL (hg : Gl X "tuple") (hm : X.mg "tuple" = none) (ha : EM XR W X p G a (fz (tLst T)) fa) (hs : starEach [a] X.env = [(false, eval a X.env)] := by rfl) : EM XR W X p G (.Call (.Name "tuple" pp) [a] [] pos) (fz (tTup T)) (fun s => (fa s).bind fun r1 => (Res.ok r1.1).bind fun z => .ok (z, r1.2)) :=
  em_callTy (T := tLst T) (g := fun x => .ok x) call_tuple_of hg hm (by decide +kernel) (fun F H v x Q ⟨a, vs, ev, q, r⟩ s h _ _ => ⟨a, vs, by rw [ev], .inl ⟨SqL.of (s _ _ q), fun l n => lay_tup r s n (h x rfl)⟩⟩) (fun _ _ => okne) ha hs
theorem em_tupT (hg : Gl X "tuple") (hm : X.mg "tuple" = none) (ha : EM XR W X p G a (fz (tTup T)) fa) (hs : starEach [a] X.env = [(false, eval a X.env)] := by rfl) : EM XR W X p G (.Call (.Name "tuple" pp) [a] [] pos) (fz (tTup T)) (fun s => (fa s).bind fun r1 => (Res.ok r1.1).bind fun z => .ok (z, r1.2)) :=
  em_callTy (T := tTup T) (g := fun x => .ok x) call_tuple_of hg hm (by decide +kernel) (fun F H v x Q ⟨a, vs, ev, q, r⟩ s h _ _ => ⟨a, vs, by rw [ev], .inr ⟨SqT.of (s _ _ q), h x rfl _ F H [] ⟨rfl, a, vs, rfl, q, r⟩ (Ext.refl (holds_nil s))⟩⟩) (fun _ _ => okne) ha hs
end
theorem em_listS {T : Ty α} {fa : S → Res (List α × S)} {pp : Pos} (hg : Gl X "list") (hm : X.mg "list" = none) (ha : EM XR W X p G a (fz (tScr X.K T)) fa) (hs : starEach [a] X.env = [(false, eval a X.env)] := by rfl) : EM XR W X p G (.Call (.Name "list" pp) [a] [] pos) (oL T) (fun s => (fa s).bind fun r1 => (Res.ok r1.1).bind fun z => .ok (z, r1.2)) :=
  em_callTy (T := tScr X.K T) (g := fun x => .ok x) call_list_of hg hm (by decide +kernel) (fun F H v x Q ⟨a, vs, ev, q, r⟩ s h _ _ => ⟨a, vs, by rw [ev], .inl (s.seq q), fun l n => lay_list r s n (h x rfl)⟩) (fun _ _ => okne) ha hs
theorem em_tupO {T : Ty α} {i : Nat} {x : Str} {get : S → List α} {put : S → List α → S} {pp pq : Pos} (hg : Gl X "tuple") (hm : X.mg "tuple" = none) (hN : X.N[i]? = some x) (hv : Vis X.env.scope x) {sl : Sl (List α)} [os : OL T sl] (at_ : At G i sl get sl G put)
    (hd : (x == ("__debug__" : Str)) = false := by decide) (hcd : (x == ("__classdict__" : Str)) = false := by decide) : EM XR W X true G (.Call (.Name "tuple" pp) [.Name x pq] [] pos) (fz (tTup T)) (fun s => .ok (get s, s)) :=
  em_callO (P := True) (g := fun xs => .ok xs) hN hv at_ (fun tn h => pe_callTy call_tuple_of hg hm (by decide +kernel) (pa_cons h pa_nil)) (fun F H a vs xs Q r hl s h _ _ => ⟨a, vs, rfl, .inl ⟨SqL.of hl, fun l n => lay_tup r s n (h xs rfl)⟩⟩) (fun _ _ => okne) hd hcd
theorem em_listO {T : Ty α} {i : Nat} {x : Str} {get : S → List α} {put : S → List α → S} {pp pq : Pos} (hg : Gl X "list") (hm : X.mg "list" = none) (hN : X.N[i]? = some x) (hv : Vis X.env.scope x) {sl : Sl (List α)} [os : OL T sl] (at_ : At G i sl get sl G put)
    (hd : (x == ("__debug__" : Str)) = false := by decide) (hcd : (x == ("__classdict__" : Str)) = false := by decide) : EM XR W X true G (.Call (.Name "list" pp) [.Name x pq] [] pos) (oL T) (fun s => .ok (get s, s)) :=
  em_callO (P := True) (g := fun xs => .ok xs) hN hv at_ (fun tn h => pe_callTy call_list_of hg hm (by decide +kernel) (pa_cons h pa_nil)) (fun F H a vs xs Q r hl s h _ _ => ⟨a, vs, rfl, .inl (SqL.of hl), fun l n => lay_list r s n (h xs rfl)⟩) (fun _ _ => okne) hd hcd
/-- int(n) -/
theorem em_intI {fa : S → Res (Int × S)} {pp : Pos} (hg : Gl X "int") (hm : X.mg "int" = none) (ha : EM XR W X p G a (fz tInt) fa) (hs : starEach [a] X.env = [(false, eval a X.env)] := by rfl) : EM XR W X p G (.Call (.Name "int" pp) [a] [] pos) (fz tInt) (fun s => (fa s).bind fun r1 => (Res.ok r1.1).bind fun z => .ok (z, r1.2)) :=
  em_callTy call_int1 hg hm (by decide +kernel) (fun F H v x Q ev s h _ _ => .inl ⟨x, by rw [show v = .int x from ev], h x rfl _ F H [] ⟨rfl, rfl⟩ (Ext.refl (holds_nil s))⟩) (fun _ _ => okne) ha hs

/-! ### argument lists, displays -/
theorem am_nil : AM XR W X true G [] anil (fun s => .ok ((), s)) := ⟨_, pa_nil, fun s F σ H A Q g k h => h _ F H [] A ⟨rfl, rfl⟩ g (Ext.refl k) fun _ => ⟨rfl, rfl⟩⟩
theorem am_cons {P : Type} {R : Rl α} {Z : RA P} {f : S → Res (α × S)} {g : S → Res (P × S)} (ha : EM XR W X p1 G e R f) (hz : AM XR W X p2 G es Z g) (hs : starEach (e :: es) X.env = (false, eval e X.env) :: starEach es X.env := by rfl) :
    AM XR W X (p1 && p2) G (e :: es) (acons R Z) (fun s => (f s).bind fun r1 => (g r1.2).bind fun r2 => .ok ((r1.1, r2.1), r2.2)) := by
  obtain ⟨t, ht, h⟩ := ha
  obtain ⟨u, hu, h'⟩ := hz
  refine ⟨_, pa_cons ht hu hs, fun s F σ H A Q gg k w => h s F σ H A _ gg k (WPE.bindA w fun x s1 v F1 H1 B A1 r1 g1 e1 q1 w => ?_)⟩
  have hB : Holds F1 H1 (A1 ++ B) := e1.holds.perm List.perm_append_comm
  refine h' s1 F1 σ H1 A1 _ g1 (hB.sub (List.sublist_append_left _ _)) ?_
  cases q : g s1 with
  | bad => rw [q] at w; exact w
  | er ex => rw [q] at w; exact fun cls oe F' H' A' h1 h2 => w cls oe F' H' A' h1 ((e1.sub (List.sublist_append_right _ _)).trans h2)
  | ok ys =>
    obtain ⟨y, s2⟩ := ys
    rw [q] at w
    intro vs F2 H2 B2 A2 r2 g2 e2 q2
    have e3 : Ext F1 H1 (B ++ A1) F2 H2 ((B ++ B2) ++ A2) := by
      have z := Ext.frame hB e2
      refine (z.permL List.perm_append_comm).perm ?_
      rw [List.append_assoc B B2 A2]
      exact List.perm_append_comm
    exact w (v :: vs) F2 H2 (B ++ B2) A2 ⟨v, vs, B, B2, rfl, rfl, R.mono r1 e2.fz, r2⟩ g2 (e1.trans e3) fun hp => by
      simp only [Bool.and_eq_true] at hp
      exact ⟨(q2 hp.2).1.trans (q1 hp.1).1, (q2 hp.2).2.trans (q1 hp.1).2⟩
theorem am_hnil {T : Ty α} : AM XR W X true G [] (aall T) (fun s => .ok ([], s)) := ⟨_, pa_nil, fun s F σ H A Q g k h => h _ F H [] A ⟨rfl, trivial⟩ g (Ext.refl k) fun _ => ⟨rfl, rfl⟩⟩
theorem am_hcons {T : Ty α} {f : S → Res (α × S)} {g : S → Res (List α × S)} (ha : EM XR W X p1 G e (fz T) f) (hz : AM XR W X p2 G es (aall T) g) (hs : starEach (e :: es) X.env = (false, eval e X.env) :: starEach es X.env := by rfl) :
    AM XR W X (p1 && p2) G (e :: es) (aall T) (fun s => (f s).bind fun r1 => (g r1.2).bind fun r2 => .ok (r1.1 :: r2.1, r2.2)) := by
  obtain ⟨t, ht, h⟩ := ha
  obtain ⟨u, hu, h'⟩ := hz
  refine ⟨_, pa_cons ht hu hs, fun s F σ H A Q gg k w => h s F σ H A _ gg k (WPE.bindA w fun x s1 v F1 H1 B A1 ⟨rB, r1⟩ g1 e1 q1 w => ?_)⟩
  subst rB
  refine h' s1 F1 σ H1 A1 _ g1 e1.holds ?_
  cases q : g s1 with
  | bad => rw [q] at w; exact w
  | er ex => rw [q] at w; exact fun cls oe F' H' A' h1 h2 => w cls oe F' H' A' h1 (e1.trans h2)
  | ok ys =>
    obtain ⟨y, s2⟩ := ys
    rw [q] at w
    rintro vs F2 H2 B2 A2 ⟨rB, r2⟩ g2 e2 q2
    subst rB
    exact w (v :: vs) F2 H2 [] A2 ⟨rfl, T.mono r1 e2.fz, r2⟩ g2 (e1.trans e2) fun hp => by
      simp only [Bool.and_eq_true] at hp
      exact ⟨(q2 hp.2).1.trans (q1 hp.1).1, (q2 hp.2).2.trans (q1 hp.1).2⟩
/-- a written list, a written tuple of one kind -/
theorem em_lst {T : Ty α} {f : S → Res (List α × S)} (h : AM XR W X p G es (aall T) f) (hl : ∀ s xs s', f s = .ok (xs, s') → xs.length ≤ sizeLine) : EM XR W X p G (.List es pos) (oL T) f := by
  obtain ⟨t, ht, h⟩ := h
  refine ⟨_, pe_lst ht, fun s F σ H A Q g k w => h s F σ H A _ g k ?_⟩
  cases q : f s with
  | bad => rw [q] at w; exact w
  | er ex => rw [q] at w; exact w
  | ok xs =>
    obtain ⟨x, s1⟩ := xs
    rw [q] at w
    rintro vs F1 H1 B A1 ⟨rB, r1⟩ g1 e1 q1
    subst rB
    refine ⟨by rw [r1.length]; exact hl s x s1 q, fun l n => ?_⟩
    exact w _ F1 _ [(l, .lst vs)] A1 ⟨l, vs, rfl, rfl, r1⟩ g1 (e1.trans (Ext.newO e1.holds n)) q1
theorem em_tupA {T : Ty α} {f : S → Res (List α × S)} {k' : Nat} (h : AM XR W X p G es (aall T) f) (hl : ∀ s xs s', f s = .ok (xs, s') → xs.length ≤ sizeLine) : EM XR W X p G (.Tuple es k' pos) (fz (tTup T)) f := by
  obtain ⟨t, ht, h⟩ := h
  refine ⟨_, pe_tup ht, fun s F σ H A Q g k w => h s F σ H A _ g k ?_⟩
  cases q : f s with
  | bad => rw [q] at w; exact w
  | er ex => rw [q] at w; exact w
  | ok xs =>
    obtain ⟨x, s1⟩ := xs
    rw [q] at w
    rintro vs F1 H1 B A1 ⟨rB, r1⟩ g1 e1 q1
    subst rB
    refine ⟨by rw [r1.length]; exact hl s x s1 q, fun l n => ?_⟩
    have ex : Ext F1 H1 A1 (upd F1 l (.tup vs)) (upd H1 l (.tup vs)) A1 := Ext.newF e1.holds n
    exact w _ _ _ [] A1 ⟨rfl, l, vs, rfl, upd_same, T.all r1 ex.fz⟩ (G.mono g1 ex.fz) (e1.trans ex) q1
theorem em_tup2 {T : Ty α} {U : Ty β} {f : S → Res ((α × β × Unit) × S)} {k' : Nat} (h : AM XR W X p G es (acons (fz T) (acons (fz U) anil)) f) : EM XR W X p G (.Tuple es k' pos) (fz (tP2 T U)) (fun s => (f s).bind fun r => .ok ((r.1.1, r.1.2.1), r.2)) := by
  obtain ⟨t, ht, h⟩ := h
  refine ⟨_, pe_tup ht, fun s F σ H A Q g k w => h s F σ H A _ g k (WPA.bindE w fun x s1 v F1 H1 B A1 r1 g1 e1 q1 w => ?_)⟩
  obtain ⟨v1, r, B1, C, rfl, rfl, ⟨rB, r1⟩, v2, r', B2, C2, rfl, rfl, ⟨rB2, r2⟩, rfl, rfl⟩ := r1
  subst rB rB2
  refine ⟨by show 2 ≤ sizeLine; decide, fun l n => ?_⟩
  have ex : Ext F1 H1 A1 (upd F1 l (.tup [v1, v2])) (upd H1 l (.tup [v1, v2])) A1 := Ext.newF e1.holds n
  exact w _ _ _ [] A1 ⟨rfl, l, v1, v2, rfl, upd_same, T.mono r1 ex.fz, U.mono r2 ex.fz⟩ (G.mono g1 ex.fz) (e1.trans ex) q1
theorem em_tup3 {T : Ty α} {U : Ty β} {V' : Ty γ} {f : S → Res ((α × β × γ × Unit) × S)} {k' : Nat} (h : AM XR W X p G es (acons (fz T) (acons (fz U) (acons (fz V') anil))) f) : EM XR W X p G (.Tuple es k' pos) (fz (tP3 T U V')) (fun s => (f s).bind fun r => .ok ((r.1.1, r.1.2.1, r.1.2.2.1), r.2)) := by
  obtain ⟨t, ht, h⟩ := h
  refine ⟨_, pe_tup ht, fun s F σ H A Q g k w => h s F σ H A _ g k (WPA.bindE w fun x s1 v F1 H1 B A1 r1 g1 e1 q1 w => ?_)⟩
  obtain ⟨v1, r, B1, C, rfl, rfl, ⟨rB, r1⟩, v2, r', B2, C2, rfl, rfl, ⟨rB2, r2⟩, v3, r'', B3, C3, rfl, rfl, ⟨rB3, r3⟩, rfl, rfl⟩ := r1
  subst rB rB2 rB3
  refine ⟨by show 3 ≤ sizeLine; decide, fun l n => ?_⟩
  have ex : Ext F1 H1 A1 (upd F1 l (.tup [v1, v2, v3])) (upd H1 l (.tup [v1, v2, v3])) A1 := Ext.newF e1.holds n
  exact w _ _ _ [] A1 ⟨rfl, l, v1, v2, v3, rfl, upd_same, T.mono r1 ex.fz, U.mono r2 ex.fz, V'.mono r3 ex.fz⟩ (G.mono g1 ex.fz) (e1.trans ex) q1

/-! ### calls of defs -/
/-- a def's promise: its mirror m; i names what it owns of the caller's -/
def WPF {ρ : Type} (XR : XRel) (R : Rl ρ) (F H : Hp) (A : Ow) (Q : VK) (E : XK) : Res ρ → Prop
  | .ok r => ∀ v F' H' A', R.P F' v r A' → Ext F H A F' H' A' → Q v H'
  | .er ex => ∀ cls oe F' H' A', XR ex cls oe H' → Ext F H A F' H' A' → E cls oe H'
  | .bad => False
def spF {ι P ρ : Type} (XR : XRel) (Z : ι → RA P) (R : ι → Rl ρ) (m : P → Res ρ) : Sp := fun vs H Q E => ∃ i x F A, (Z i).P F vs x A ∧ Holds F H A ∧ WPF XR (R i) F H A Q E (m x)
/-- .. where it owns nothing of the caller's -/
abbrev spP {P ρ : Type} (XR : XRel) (Z : RA P) (R : Rl ρ) (m : P → Res ρ) : Sp := spF XR (fun _ : Unit => Z) (fun _ => R) m
/-- what a def hands back beside the list that it was lent -/
def rLent {ρ α : Type} (R : Rl ρ) (a : Addr) (T : Ty α) : Rl (ρ × List α) := ⟨fun F v x A => ∃ B vs, A = B ++ [(a, .lst vs)] ∧ R.P F v x.1 B ∧ All2 (T.R F) vs x.2, fun ⟨B, vs, e, r, q⟩ s => ⟨B, vs, e, R.mono r s, T.all q s⟩⟩
/-- .. lent at its first argument -/
abbrev spL {P ρ α : Type} (XR : XRel) (T : Ty α) (Z : RA P) (R : Rl ρ) (m : List α × P → Res (ρ × List α)) : Sp := spF XR (fun a : Addr => acons (oLa a T) Z) (fun a => rLent R a T) m
section
variable {k : Nat} {f : Addr} {fd : FuncData} {ps : List Str} {x : Str} {pp : Pos} {P : Type} {Z : RA P} {R : Rl ρ} {m : P → Res ρ} {fargs : S → Res (P × S)}
theorem em_call (tk : Takes X W) (Fk : FnOk X.prog X.w X.K X.mg X.base (L2.CX X.prog X.w) k f fd ps (spP XR Z R m)) (hr : Room k X.A) (hg : Gl X x) (hm : X.mg x = some (.ref f)) (hk : PySem.W.keepIn X.K (.ref f) = true) (hb : Binds X.K fd ps [])
    (ha : AM XR W X p G (e :: es) Z fargs) (hdb : (x == ("__debug__" : Str)) = false := by decide) (he : starEach (e :: es) X.env = (false, eval e X.env) :: starEach es X.env := by rfl) (hpl : (backTo pos (starEach es X.env)).any (·.1) = false := by rfl) :
    EM XR W X p G (.Call (.Name x pp) (e :: es) [] pos) R (fun s => (fargs s).bind fun r1 => (m r1.1).bind fun z => .ok (z, r1.2)) := by
  obtain ⟨t, ht, h⟩ := ha
  refine ⟨_, pe_callS Fk hr hg hm hk hb (fun σ => passAt tk σ) ht hdb he hpl, fun s F σ H A Q g kk w => h s F σ H A _ g kk (WPA.bindE w fun y s1 v F1 H1 B A1 r1 g1 e1 q1 w => ?_)⟩
  refine ⟨(), y, F1, B, r1, e1.holds.sub (List.sublist_append_left _ _), ?_⟩
  cases q : m y with
  | bad => rw [q] at w; exact w.elim
  | er ex => 
    rw [q] at w
    exact fun cls oe F' H' A' h1 h2 => w cls oe F' H' (A' ++ A1) h1 (e1.trans (Ext.frame e1.holds h2))
  | ok z =>
    rw [q] at w
    exact fun v F' H' A' h1 h2 => w v F' H' A' A1 h1 (G.mono g1 h2.fz) (e1.trans (Ext.frame e1.holds h2)) q1
/-- the first argument is a list that stands in a slot and comes back changed -/
theorem em_callL {T : Ty α} {i : Nat} {y : Str} {py : Pos} {get : S → List α} {put : S → List α → S} {m : List α × P → Res (ρ × List α)} (tk : Takes X W) (Fk : FnOk X.prog X.w X.K X.mg X.base (L2.CX X.prog X.w) k f fd ps (spL XR T Z R m)) (hr : Room k X.A) (hg : Gl X x) (hm : X.mg x = some (.ref f)) (hk : PySem.W.keepIn X.K (.ref f) = true) (hb : Binds X.K fd ps [])
    (hN : X.N[i]? = some y) (hv : Vis X.env.scope y) {sl : Sl (List α)} [os : OL T sl] (at_ : At G i sl get sl G put)
    (ha : AM XR W X p G es Z fargs) (hdb : (x == ("__debug__" : Str)) = false := by decide) (he : starEach (.Name y py :: es) X.env = (false, eval (.Name y py) X.env) :: starEach es X.env := by rfl) (hpl : (backTo pos (starEach es X.env)).any (·.1) = false := by rfl)
    (hd : (y == ("__debug__" : Str)) = false := by decide) (hcd : (y == ("__classdict__" : Str)) = false := by decide) :
    EM XR W X false G (.Call (.Name x pp) (.Name y py :: es) [] pos) R (fun s => (fargs s).bind fun r1 => (m (get r1.2, r1.1)).bind fun z => .ok (z.1, put r1.2 z.2)) := by
  obtain ⟨t, ht, h⟩ := ha
  refine ⟨_, pe_callS Fk hr hg hm hk hb (fun σ => passAt tk σ) (pa_cons (pe_var hN hv hd hcd) ht he) hdb he hpl, fun s F σ H A Q g kk w => ?_⟩
  obtain ⟨o, L, B, R', e1, e2, hsl, _⟩ := at_.at_ s F σ A g
  obtain ⟨a, vs, rfl, e4, r, _⟩ := os.opn hsl
  refine ⟨.ref a, e1, h s F σ H A _ g kk (WPA.bindE w fun y s1 us F1 H1 B1 A1 r1 g1 x1 q1 w => ?_)⟩
  obtain ⟨o', L', B', R2, e1', e2', hsl', st⟩ := at_.at_ s1 F1 σ A1 g1
  obtain ⟨a', vs', rfl, e4', r', cl⟩ := os.opn hsl'
  rw [e1] at e1'
  cases e1'
  subst e4'
  -- the callee owns B1 and the list
  have perm1 : (B1 ++ A1).Perm (((a, HO.lst vs') :: B1) ++ (L' ++ R2)) := by
    rw [e2']
    refine (List.Perm.append_left B1 (perm_mid L' [(a, HO.lst vs')] R2)).trans ?_
    exact (List.perm_append_comm (l₁ := B1) (l₂ := [(a, HO.lst vs')])).append_right (L' ++ R2) |> fun z => by simpa using z
  have hh : Holds F1 H1 (((a, HO.lst vs') :: B1) ++ (L' ++ R2)) := x1.holds.perm perm1
  refine ⟨a, (get s1, y), F1, (a, .lst vs') :: B1, ⟨.ref a, us, [(a, .lst vs')], B1, rfl, rfl, ⟨vs', rfl, rfl, r'⟩, r1⟩, hh.sub (List.sublist_append_left _ _), ?_⟩
  cases q : m (get s1, y) with
  | bad => rw [q] at w; exact w.elim
  | er ex =>
    rw [q] at w
    exact fun cls oe F' H' A' h1 h2 => w cls oe F' H' (A' ++ (L' ++ R2)) h1 (x1.trans ((Ext.frame hh h2).permL perm1.symm))
  | ok z =>
    rw [q] at w
    obtain ⟨z, zs⟩ := z
    rintro v F' H' A' ⟨B3, vs3, rfl, h1, h1'⟩ h2
    have fr := (Ext.frame hh h2).permL perm1.symm
    have perm2 : ((B3 ++ [(a, HO.lst vs3)]) ++ (L' ++ R2)).Perm (B3 ++ (L' ++ ([(a, HO.lst vs3)] ++ R2))) := by
      rw [List.append_assoc]
      exact List.Perm.append_left B3 (perm_mid L' [(a, HO.lst vs3)] R2).symm
    have gg := st F' (some (.ref a)) zs [(a, .lst vs3)] h2.fz (cl F' vs3 zs h1')
    have es : σ.set i (some (V.ref a)) = σ := by
      apply List.ext_getElem?
      intro j
      by_cases hj : j = i
      · subst hj
        have hlt : j < σ.length := (List.getElem?_eq_some_iff.mp e1).1
        rw [List.getElem?_set_self hlt, e1]
      · rw [List.getElem?_set_ne (Ne.symm hj)]
    rw [es] at gg
    exact w v F' H' B3 _ h1 gg (x1.trans (fr.perm perm2)) (fun hp => by cases hp)
end
end
end TC
namespace TC
open PySem PySem.Spec PyProof.Rows L2

theorem set_same {σ : St} {i : Nat} {o : Option V} (e : σ[i]? = some o) : σ.set i o = σ := by
  apply List.ext_getElem?
  intro j
  by_cases hj : j = i
  · subst hj
    have hlt : j < σ.length := (List.getElem?_eq_some_iff.mp e).1
    rw [List.getElem?_set_self hlt, e]
  · rw [List.getElem?_set_ne (Ne.symm hj)]

theorem wipe_get (σ : St) : ∀ (vs : List Nat) (k : Nat), (wipe σ vs)[k]? = if k ∈ vs then (if k < σ.length then some none else none) else σ[k]?
  | [], k => by simp [wipe]
  | v :: vs, k => by
    unfold wipe
    by_cases hk : k = v
    · subst hk
      rw [if_pos List.mem_cons_self]
      by_cases hl : k < σ.length
      · rw [if_pos hl, List.getElem?_set_self (by rw [wipe_length]; exact hl)]
      · rw [if_neg hl]
        exact List.getElem?_eq_none_iff.mpr (by rw [List.length_set, wipe_length]; omega)
    · rw [List.getElem?_set_ne (Ne.symm hk), wipe_get σ vs k]
      by_cases hm : k ∈ vs
      · rw [if_pos hm, if_pos (List.mem_cons_of_mem _ hm)]
      · rw [if_neg hm, if_neg (fun z => (List.mem_cons.mp z).elim hk hm)]
theorem wipe_eq {σ σ' : St} {vs : List Nat} (hl : σ'.length = σ.length) (h : ∀ k, k ∉ vs → σ'[k]? = σ[k]?) : wipe σ' vs = wipe σ vs := by
  apply List.ext_getElem?
  intro k
  rw [wipe_get, wipe_get, hl]
  by_cases hm : k ∈ vs
  · rw [if_pos hm, if_pos hm]
  · rw [if_neg hm, if_neg hm, h k hm]

section
variable {XR : XRel} {W : WX} {X : Cx} {S S' S2 S3 L L1 ρ : Type} {G : Ctx S} {G' : Ctx S'} {G2 : Ctx S2} {G3 : Ctx S3} {Gb Gl : Ctx L} {G1 : Ctx L1} {α β γ ι : Type} {e a b c : Expr} {es : List Expr} {st : Stmt} {sts sts' : List Stmt} {pos : Pos} {p p1 p2 p3 : Bool} {Rr : Rl ρ}

theorem WPS.later {F H F1 H1 : Hp} {A A1 : Ow} {D : Ends} {r : Out S' L ρ} (h : WPS XR W Rr Gb G' F H A D r) (e : Ext F H A F1 H1 A1) : WPS XR W Rr Gb G' F1 H1 A1 D r := by
  cases r with
  | bad => exact h
  | er ex => exact fun cls oe F' H' σ' A' h1 h2 => h cls oe F' H' σ' A' h1 (e.trans h2)
  | nx s => exact fun F' σ' H' A' h1 h2 => h F' σ' H' A' h1 (e.trans h2)
  | rt r => exact fun v F' H' A' h1 h2 => h v F' H' A' h1 (e.trans h2)
  | bk s => exact fun F' σ' H' A' h1 h2 => h F' σ' H' A' h1 (e.trans h2)
  | ct s => exact fun F' σ' H' A' h1 h2 => h F' σ' H' A' h1 (e.trans h2)

/-! ### blocks -/
theorem ss_nil {m : S → S'} (mv : Mv G G' m) : SS XR W X Rr Gb G [] G' (fun s => .nx (m s)) := ⟨_, pss_nil, fun s F σ H A D g k w => by
  obtain ⟨F', A', g', e⟩ := mv.mv s F H σ A g k
  exact w F' σ H A' g' e⟩
theorem ss_cons {f : S → Out S' L ρ} {g : S' → Out S2 L ρ} (h1 : SM XR W X Rr Gb G st G' f) (h2 : SS XR W X Rr Gb G' sts G2 g) : SS XR W X Rr Gb G (st :: sts) G2 (fun s => (f s).seq g) := by
  obtain ⟨t, ht, h1⟩ := h1
  obtain ⟨u, hu, h2⟩ := h2
  refine ⟨_, pss_cons ht hu, fun s F σ H A D gg k w => h1 s F σ H A _ gg k ?_⟩
  dsimp only at w
  cases q : f s with
  | bad => rw [q] at w; exact w
  | er ex => rw [q] at w; exact w
  | rt r => rw [q] at w; exact w
  | bk r => rw [q] at w; exact w
  | ct r => rw [q] at w; exact w
  | nx s1 =>
    rw [q] at w
    intro F' σ' H' A' g' e
    exact h2 s1 F' σ' H' A' D g' e.holds (w.later e)
/-- ahead of a block the context is moved -/
theorem ss_mv {m : S → S'} {f : S' → Out S2 L ρ} (mv : Mv G G' m) (h : SS XR W X Rr Gb G' sts G2 f) : SS XR W X Rr Gb G sts G2 (fun s => f (m s)) := by
  obtain ⟨t, ht, h⟩ := h
  refine ⟨t, ht, fun s F σ H A D g k w => ?_⟩
  obtain ⟨F', A', g', e⟩ := mv.mv s F H σ A g k
  exact h (m s) F' σ H A' D g' e.holds (w.later e)
theorem sm_pass : SM XR W X Rr Gb G (.Pass pos) G (fun s => .nx s) := ⟨_, ps_pass, fun s F σ H A D g k w => w F σ H A g (Ext.refl k)⟩
theorem sm_doc {x : Str} {j : Nat} {pos' : Pos} : SM XR W X Rr Gb G (.Expr (.Constant (.str x) j pos) pos') G (fun s => .nx s) := ⟨_, ps_doc, fun s F σ H A D g k w => w F σ H A g (Ext.refl k)⟩
theorem sm_break {m : S → L} (mv : Mv G Gb m) : SM XR W X Rr Gb G (.Break pos) G' (fun s => .bk (m s)) := ⟨_, ps_break, fun s F σ H A D g k w => by
  obtain ⟨F', A', g', e⟩ := mv.mv s F H σ A g k
  exact w F' σ H A' g' e⟩
theorem sm_continue {m : S → L} (mv : Mv G Gb m) : SM XR W X Rr Gb G (.Continue pos) G' (fun s => .ct (m s)) := ⟨_, ps_continue, fun s F σ H A D g k w => by
  obtain ⟨F', A', g', e⟩ := mv.mv s F H σ A g k
  exact w F' σ H A' g' e⟩
/-- what a return hands on -/
structure Pack (G : Ctx S) (R : Rl α) (Rr : Rl ρ) (pack : α → S → ρ) : Prop where
  pk : ∀ s F σ A v x B, R.P F v x B → G.P s F σ A → ∃ A', A'.Sublist (B ++ A) ∧ Rr.P F v (pack x s) A'
theorem pk_plain {R : Rl α} : Pack G R R (fun x _ => x) := ⟨fun s F σ A v x B h g => ⟨B, List.sublist_append_left _ _, h⟩⟩
theorem pk_lent {R : Rl α} {T : Ty β} {i : Nat} {ad : Addr} {get : S → List β} {put : S → List β → S} (at_ : At G i (sR (oLa ad T)) get (sR (oLa ad T)) G put) : Pack G R (rLent R ad T) (fun x s => (x, get s)) := ⟨fun s F σ A v x B h g => by
  obtain ⟨o, L, B1, R1, e1, e2, ⟨v', e3, vs, e4, e5, r⟩, _⟩ := at_.at_ s F σ A g
  subst e2 e5
  refine ⟨B ++ [(ad, .lst vs)], List.Sublist.append (List.Sublist.refl _) ?_, B, vs, rfl, h, r⟩
  exact (List.sublist_append_left _ _).trans (List.sublist_append_right _ _)⟩
theorem sm_ret {R : Rl α} {f : S → Res (α × S)} {pack : α → S → ρ} (pk : Pack G R Rr pack) (h : EM XR W X p G e R f) : SM XR W X Rr Gb G (.Return (some e) pos) G' (fun s => (f s).out fun r => .rt (pack r.1 r.2)) := by
  obtain ⟨t, ht, h⟩ := h
  refine ⟨_, ps_ret ht, fun s F σ H A D g k w => h s F σ H A _ g k (WPE.bindS (p1 := p) w fun x s1 v F1 H1 B A1 r1 g1 e1 w => ?_)⟩
  obtain ⟨A', sb, r⟩ := pk.pk s1 F1 σ A1 v x B r1 g1
  exact w v F1 H1 A' r (e1.sub sb)
theorem sm_retN {x : α} {R : Rl α} {pack : α → S → ρ} (pk : Pack G R Rr pack) (hn : ∀ F, R.P F .non x []) : SM XR W X Rr Gb G (.Return none pos) G' (fun s => .rt (pack x s)) := by
  refine ⟨_, ps_retN, fun s F σ H A D g k w => ?_⟩
  obtain ⟨A', sb, r⟩ := pk.pk s F σ A .non x [] (hn F) g
  exact w .non F H A' r ((Ext.refl k).sub sb)
theorem sm_expr {R : Rl α} {f : S → Res (α × S)} (h : EM XR W X p G e R f) (hs : swapsWith e none pos.line X.env = pure false := by rfl) : SM XR W X Rr Gb G (.Expr e pos) G (fun s => (f s).out fun r => .nx r.2) := by
  obtain ⟨t, ht, h⟩ := h
  refine ⟨_, ps_expr ht hs, fun s F σ H A D g k w => h s F σ H A _ g k (WPE.bindS (p1 := p) w fun x s1 v F1 H1 B A1 r1 g1 e1 w => ?_)⟩
  exact w F1 σ H1 A1 g1 (e1.sub (List.sublist_append_right _ _))
theorem sm_if {f : S → Res (Bool × S)} {fa fb : S → Out S' L ρ} (hc : TM XR W X p G c f) (ha : SS XR W X Rr Gb G sts G' fa) (hb : SS XR W X Rr Gb G sts' G' fb) :
    SM XR W X Rr Gb G (.If c sts sts' pos) G' (fun s => (f s).out fun r => if r.1 then fa r.2 else fb r.2) := by
  obtain ⟨t, ht, h⟩ := hc
  obtain ⟨u, hu, ha⟩ := ha
  obtain ⟨v, hv, hb⟩ := hb
  refine ⟨_, ps_if ht hu hv, fun s F σ H A D g k w => h s F σ H A _ g k (WPT.bindS (p1 := p) w fun x s1 F1 H1 A1 g1 e1 w => ?_)⟩
  cases x with
  | true => rw [if_pos rfl]; simp only [if_pos] at w; exact ha s1 F1 σ H1 A1 D g1 e1.holds (w.later e1)
  | false => rw [if_neg Bool.false_ne_true]; simp only [Bool.false_eq_true, if_false] at w; exact hb s1 F1 σ H1 A1 D g1 e1.holds (w.later e1)

/-! ### stores -/
theorem perm_head (B L C R : Ow) : (B ++ (L ++ (C ++ R))).Perm (C ++ (L ++ (B ++ R))) := by
  refine (List.Perm.append_left B (perm_mid L C R)).trans ((perm_mid B C (L ++ R)).trans (List.Perm.append_left C ?_))
  rw [← List.append_assoc, ← List.append_assoc]
  exact List.perm_append_comm.append_right R
theorem Ext.store {F H F' H' : Hp} {A B L C R : Ow} (e : Ext F H A F' H' (B ++ (L ++ (C ++ R)))) : Ext F H A F' H' (L ++ (B ++ R)) :=
  (e.perm (perm_head B L C R)).sub (List.sublist_append_right _ _)
/-- name = value -/
theorem sm_set {sl : Sl β} {R : Rl α} {f : S → Res (α × S)} {i : Nat} {x : Str} {pos' : Pos} {get : S → β} {put : S → α → S'} (hN : X.N.Nodup) (hi : X.N[i]? = some x) (hx : Loc X.env.scope x) (at_ : At G i sl get (sR R) G' put) (h : EM XR W X p G e R f)
    (hs : swapsWith e (some (.Name x pos')) pos.line X.env = pure false := by rfl) (hf : X.fn x = true ∨ X.env.scope.names.lookup x = some .local := by first | exact .inl rfl | exact .inr rfl | assumption) :
    SM XR W X Rr Gb G (.Assign [.Name x pos'] e pos) G' (fun s => (f s).out fun r => .nx (put r.2 r.1)) := by
  obtain ⟨t, ht, h⟩ := h
  refine ⟨_, ps_set hN hi hx ht hs hf, fun s F σ H A D g k w => h s F σ H A _ g k (WPE.bindS (p1 := p) w fun y s1 v F1 H1 B A1 r1 g1 e1 w => ?_)⟩
  obtain ⟨o, L, C, R', q1, q2, _, st⟩ := at_.at_ s1 F1 σ A1 g1
  subst q2
  exact w F1 _ H1 _ (st F1 (some v) y B (Same.refl _) ⟨v, rfl, r1⟩) e1.store
/-- name += value (ints) -/
theorem sm_augI {T : Ty α} {U : Ty β} {op : Operator} {f : S → Res (β × S)} {gop : α → β → Res α} {ti : TIp} {i : Nat} {x : Str} {pos' : Pos} {get : S → α} {put : S → α → S} (hN : X.N.Nodup) (hi : X.N[i]? = some x) (hx : Loc X.env.scope x) (at_ : At G i (sR (fz T)) get (sR (fz T)) G put) 
    (hop : PIp X op ti) (ho : Op2 ti T U gop (fz T)) (ne : ∀ x y ex, gop x y ≠ .er ex) (h : EM XR W X p G e (fz U) f)
    (hf : X.fn x = true ∨ X.env.scope.names.lookup x = some .local := by first | exact .inl rfl | exact .inr rfl | assumption) :
    SM XR W X Rr Gb G (.AugAssign (.Name x pos') op e pos) G (fun s => (f s).out fun r => (gop (get s) r.1).out fun z => .nx (put r.2 z)) := by
  obtain ⟨t, ht, h⟩ := h
  refine ⟨_, ps_aug hN hi hx ht hop hf, fun s F σ H A D g k w => ?_⟩
  obtain ⟨o, L, C, R', q1, q2, ⟨v, rfl, rC, r⟩, _⟩ := at_.at_ s F σ A g
  refine ⟨v, q1, h s F σ H A _ g k (WPE.bindS (p1 := p) w fun y s1 u F1 H1 B A1 ⟨rB, r1⟩ g1 e1 w => ?_)⟩
  subst rB
  refine ho F1 H1 v u (get s) y _ (T.mono r e1.fz) r1 e1.holds.fz (fun z ez w' F' H' B hr ex => ?_) (fun q => by dsimp only at w; rw [q] at w; exact w) (ne _ _)
  obtain ⟨rB, r2⟩ := hr
  subst rB
  dsimp only at w
  rw [ez] at w
  have e2 := e1.trans (ext_nil e1.holds ex)
  obtain ⟨o', L', C', R2, q1', q2', _, st⟩ := at_.at_ s1 F' σ A1 (G.mono g1 ex.fz)
  subst q2'
  exact w F' _ H' _ (st F' (some w') z [] (Same.refl _) ⟨w', rfl, rfl, r2⟩) (Ext.store (B := []) e2)
theorem sm_addI {f : S → Res (Int × S)} {i : Nat} {x : Str} {pos' : Pos} {get : S → Int} {put : S → Int → S} (hN : X.N.Nodup) (hi : X.N[i]? = some x) (hx : Loc X.env.scope x) (at_ : At G i (sR (fz tInt)) get (sR (fz tInt)) G put) (h : EM XR W X p G e (fz tInt) f)
    (hf : X.fn x = true ∨ X.env.scope.names.lookup x = some .local := by first | exact .inl rfl | exact .inr rfl | assumption) :
    SM XR W X Rr Gb G (.AugAssign (.Name x pos') .Add e pos) G (fun s => (f s).out fun r => (mAdd (get s) r.1).out fun z => .nx (put r.2 z)) :=
  sm_augI hN hi hx at_ ip_add (fun F H v u x y Q rv ru s h _ _ => ⟨x, y, rv, ru, h _ rfl _ F H [] ⟨rfl, rfl⟩ (Ext.refl (holds_nil s))⟩) (fun _ _ _ => okne) h hf
/-- xs.append(value), xs in a slot -/
theorem sm_append {T : Ty α} {f : S → Res (α × S)} {i : Nat} {x : Str} {pp ap cp : Pos} {get : S → List α} {put : S → List α → S} {sl : Sl (List α)} [os : OL T sl] (hN : X.N[i]? = some x) (hv : Vis X.env.scope x) (at_ : At G i sl get sl G put) (h : EM XR W X p G e (fz T) f)
    (mk : ∀ tn te, PE X (.Name x pp) tn → PE X e te → PE X (.Call (.Attribute (.Name x pp) "append" ap) [e] [] cp) (tBM X.K "list" rAppend tn (tCons te tNil)))
    (hs : swapsWith (.Call (.Attribute (.Name x pp) "append" ap) [e] [] cp) none pos.line X.env = pure false := by rfl)
    (hd : (x == ("__debug__" : Str)) = false := by decide) (hcd : (x == ("__classdict__" : Str)) = false := by decide) :
    SM XR W X Rr Gb G (.Expr (.Call (.Attribute (.Name x pp) "append" ap) [e] [] cp) pos) G (fun s => (f s).out fun r => (mApp (get r.2) r.1).out fun z => .nx (put r.2 z)) := by
  obtain ⟨t, ht, h⟩ := h
  refine ⟨_, ps_expr (mk _ _ (pe_var hN hv hd hcd) ht) hs, fun s F σ H A D g k w => ?_⟩
  obtain ⟨o, L, B, R', e1, e2, hsl, _⟩ := at_.at_ s F σ A g
  obtain ⟨a, vs, rfl, e4, r, _⟩ := os.opn hsl
  subst e4
  have hl : H a = some (.lst vs) := (k.ow (a, .lst vs) (by rw [e2]; simp)).2
  refine ⟨.ref a, e1, .inl ⟨rfl, vs, SqL.of hl⟩, h s F σ H A _ g k (WPE.bindS (p1 := p) w fun y s1 u F1 H1 B1 A1 ⟨rB, r1⟩ g1 x1 w => ?_)⟩
  subst rB
  obtain ⟨o', L', B', R2, e1', e2', hsl', st⟩ := at_.at_ s1 F1 σ A1 g1
  obtain ⟨a', vs', rfl, e4', r', cl⟩ := os.opn hsl'
  rw [e1] at e1'
  cases e1'
  subst e4' e2'
  have hl' : H1 a = some (.lst vs') := (x1.holds.ow (a, .lst vs') (by simp)).2
  dsimp only at w
  unfold mApp at w
  by_cases hz : (get s1).length < sizeLine
  · rw [if_pos hz] at w
    refine ⟨a, vs', u, rfl, rfl, hl', by rw [r'.length]; exact hz, ?_⟩
    have hw : Ext F1 H1 [(a, .lst vs')] F1 (upd H1 a (.lst (vs' ++ [u]))) [(a, .lst (vs' ++ [u]))] := Ext.write (x1.holds.sub ((List.sublist_append_left _ _).trans (List.sublist_append_right _ _)))
    have gg := st F1 (some (.ref a)) (get s1 ++ [y]) [(a, .lst (vs' ++ [u]))] (Same.refl _) (cl F1 (vs' ++ [u]) (get s1 ++ [y]) (r'.append ⟨r1, trivial⟩))
    rw [set_same e1] at gg
    exact w F1 σ _ _ gg (x1.trans (Ext.frameMid (L := L') (A := [(a, .lst vs')]) (R := R2) x1.holds hw))
  · rw [if_neg hz] at w; exact w.elim
/-- xs.reverse() -/
theorem sm_reverse {T : Ty α} {i : Nat} {x : Str} {pp ap cp : Pos} {get : S → List α} {put : S → List α → S} {sl : Sl (List α)} [os : OL T sl] (hN : X.N[i]? = some x) (hv : Vis X.env.scope x) (at_ : At G i sl get sl G put)
    (mk : ∀ tn, PE X (.Name x pp) tn → PE X (.Call (.Attribute (.Name x pp) "reverse" ap) [] [] cp) (tBM0 X.K "list" rReverse tn))
    (hs : swapsWith (.Call (.Attribute (.Name x pp) "reverse" ap) [] [] cp) none pos.line X.env = pure false := by rfl)
    (hd : (x == ("__debug__" : Str)) = false := by decide) (hcd : (x == ("__classdict__" : Str)) = false := by decide) :
    SM XR W X Rr Gb G (.Expr (.Call (.Attribute (.Name x pp) "reverse" ap) [] [] cp) pos) G (fun s => .nx (put s (get s).reverse)) := by
  refine ⟨_, ps_expr (mk _ (pe_var hN hv hd hcd)) hs, fun s F σ H A D g k w => ?_⟩
  obtain ⟨o, L, B, R', e1, e2, hsl, st⟩ := at_.at_ s F σ A g
  obtain ⟨a, vs, rfl, e4, r, cl⟩ := os.opn hsl
  subst e4 e2
  have hl : H a = some (.lst vs) := (k.ow (a, .lst vs) (by simp)).2
  have hw : Ext F H [(a, .lst vs)] F (upd H a (.lst vs.reverse)) [(a, .lst vs.reverse)] := Ext.write (k.sub ((List.sublist_append_left _ _).trans (List.sublist_append_right _ _)))
  have gg := st F (some (.ref a)) (get s).reverse [(a, .lst vs.reverse)] (Same.refl _) (cl F vs.reverse (get s).reverse r.reverse)
  rw [set_same e1] at gg
  exact ⟨.ref a, e1, .inl ⟨rfl, vs, SqL.of hl⟩, a, vs, rfl, rfl, hl, w F σ _ _ gg (Ext.frameMid k hw)⟩
/-- xs.pop() as a value -/
def mPop {α : Type} (xs : List α) : Res (α × List α) := match xs.getLast? with
  | some x => .ok (x, xs.dropLast)
  | none => .bad
theorem em_pop {T : Ty α} {i : Nat} {x : Str} {pp ap cp : Pos} {get : S → List α} {put : S → List α → S} {sl : Sl (List α)} [os : OL T sl] (hN : X.N[i]? = some x) (hv : Vis X.env.scope x) (at_ : At G i sl get sl G put)
    (mk : ∀ tn, PE X (.Name x pp) tn → PE X (.Call (.Attribute (.Name x pp) "pop" ap) [] [] cp) (tBM0 X.K "list" rPop tn))
    (hd : (x == ("__debug__" : Str)) = false := by decide) (hcd : (x == ("__classdict__" : Str)) = false := by decide) :
    EM XR W X false G (.Call (.Attribute (.Name x pp) "pop" ap) [] [] cp) (fz T) (fun s => (mPop (get s)).bind fun r => .ok (r.1, put s r.2)) := by
  refine ⟨_, mk _ (pe_var hN hv hd hcd), fun s F σ H A D g k w => ?_⟩
  obtain ⟨o, L, B, R', e1, e2, hsl, st⟩ := at_.at_ s F σ A g
  obtain ⟨a, vs, rfl, e4, r, cl⟩ := os.opn hsl
  subst e4 e2
  have hl : H a = some (.lst vs) := (k.ow (a, .lst vs) (by simp)).2
  dsimp only at w
  unfold mPop at w
  cases q : (get s).getLast? with
  | none => rw [q] at w; exact w.elim
  | some y =>
    rw [q] at w
    obtain ⟨u, h1, h2⟩ := r.last q
    have hw : Ext F H [(a, .lst vs)] F (upd H a (.lst vs.dropLast)) [(a, .lst vs.dropLast)] := Ext.write (k.sub ((List.sublist_append_left _ _).trans (List.sublist_append_right _ _)))
    have gg := st F (some (.ref a)) (get s).dropLast [(a, .lst vs.dropLast)] (Same.refl _) (cl F vs.dropLast (get s).dropLast r.dropLast)
    rw [set_same e1] at gg
    exact ⟨.ref a, e1, .inl ⟨rfl, vs, SqL.of hl⟩, a, vs, u, rfl, rfl, hl, h1, w u F _ [] _ ⟨rfl, h2⟩ gg (Ext.frameMid k hw) (fun hp => by cases hp)⟩
/-- xs[i] = value, xs in a slot -/
theorem sm_setIx {T : Ty α} {f : S → Res (α × S)} {fi : S → Res (Int × S)} {i : Nat} {x : Str} {pp sp : Pos} {get : S → List α} {put : S → List α → S} {sl : Sl (List α)} [os : OL T sl] (hN : X.N[i]? = some x) (hv : Vis X.env.scope x) (at_ : At G i sl get sl G put) (h : EM XR W X p1 G e (fz T) f) (hi : EM XR W X p2 G b (fz tInt) fi)
    (mk : ∀ te tn ti, PE X e te → PE X (.Name x pp) tn → PE X b ti → PS X (.Assign [.Subscript (.Name x pp) b sp] e pos) (tAsg te (gSub tn ti rSetL)))
    (hd : (x == ("__debug__" : Str)) = false := by decide) (hcd : (x == ("__classdict__" : Str)) = false := by decide) :
    SM XR W X Rr Gb G (.Assign [.Subscript (.Name x pp) b sp] e pos) G (fun s => (f s).out fun r => (fi r.2).out fun q => (mSet (get q.2) q.1 r.1).out fun z => .nx (put q.2 z)) := by
  obtain ⟨t, ht, h⟩ := h
  obtain ⟨u, hu, hi⟩ := hi
  refine ⟨_, mk _ _ _ ht (pe_var hN hv hd hcd) hu, fun s F σ H A D g k w => h s F σ H A _ g k (WPE.bindS (p1 := p1) w fun y s1 v F1 H1 B1 A1 ⟨rB, r1⟩ g1 x1 w => ?_)⟩
  subst rB
  obtain ⟨o, L, B, R', e1, e2, hsl, _⟩ := at_.at_ s1 F1 σ A1 g1
  obtain ⟨a, vs, rfl, e4, r, _⟩ := os.opn hsl
  refine ⟨.ref a, e1, hi s1 F1 σ H1 A1 _ g1 x1.holds (WPE.bindS (p1 := p2) (w.later x1) fun j s2 w2 F2 H2 B2 A2 ⟨rB, r2⟩ g2 x2 w => ?_)⟩
  subst rB
  obtain ⟨o', L', B', R2, e1', e2', hsl', st⟩ := at_.at_ s2 F2 σ A2 g2
  obtain ⟨a', vs', rfl, e4', r', cl⟩ := os.opn hsl'
  rw [e1] at e1'
  cases e1'
  subst e4' e2'
  have hl' : H2 a = some (.lst vs') := (x2.holds.ow (a, .lst vs') (by simp)).2
  dsimp only at w
  unfold mSet at w
  cases q : ixN (get s2).length j with
  | none => rw [q] at w; exact w.elim
  | some n =>
    rw [q] at w
    refine ⟨a, vs', j, n, rfl, r2, hl', by rw [r'.length]; exact q, ?_⟩
    have hw : Ext F2 H2 [(a, .lst vs')] F2 (upd H2 a (.lst (vs'.set n v))) [(a, .lst (vs'.set n v))] := Ext.write (x2.holds.sub ((List.sublist_append_left _ _).trans (List.sublist_append_right _ _)))
    have gg := st F2 (some (.ref a)) ((get s2).set n y) [(a, .lst (vs'.set n v))] (Same.refl _) (cl F2 _ _ (r'.set (T.mono r1 x2.fz) n))
    rw [set_same e1] at gg
    exact w F2 σ _ _ gg (x2.trans (Ext.frameMid (L := L') (A := [(a, .lst vs')]) (R := R2) x2.holds hw))

/-! ### targets -/
def Tgt (X : Cx) (tg : Expr) (T : Ty ι) (Gl : Ctx L) (G1 : Ctx L1) (put : L → ι → L1) (vs : List Nat) : Prop :=
  ∃ g, PG X tg g ∧ ∀ l F σ H A v x Q, Gl.P l F σ A → Same F H → T.R F v x → (∀ σ' A', G1.P (put l x) F σ' A' → A'.Sublist A → wipe σ' vs = wipe σ vs → Q σ' H) → g v σ H Q
theorem sub_mid (L B R : Ow) : (L ++ ([] ++ R)).Sublist (L ++ (B ++ R)) := List.Sublist.append (List.Sublist.refl _) (List.sublist_append_right _ _)
theorem tgt_name {T : Ty ι} {sl : Sl β} {i : Nat} {x : Str} {get : L → β} {put : L → ι → L1} (hN : X.N.Nodup) (hi : X.N[i]? = some x) (hx : Loc X.env.scope x) (at_ : At Gl i sl get (sR (fz T)) G1 put)
    (hf : X.fn x = true ∨ X.env.scope.names.lookup x = some .local := by first | exact .inl rfl | exact .inr rfl | assumption) : Tgt X (.Name x pos) T Gl G1 put [i] := by
  refine ⟨_, pg_name hN hi hx hf, fun l F σ H A v y Q g s r h => ?_⟩
  obtain ⟨o, L, C, R', q1, q2, _, st⟩ := at_.at_ l F σ A g
  subst q2
  refine h _ _ (st F (some v) y [] (Same.refl _) ⟨v, rfl, rfl, r⟩) (sub_mid L C R') ?_
  exact wipe_eq (by simp) fun k hk => List.getElem?_set_ne (fun z => hk (by simp [z]))
@[irreducible] def pP (put : L → ι → L1) (put' : L1 → β → S) : L → ι × β → S := fun l z => put' (put l z.1) z.2
theorem pP_eq (put : L → ι → L1) (put' : L1 → β → S) (l : L) (x : ι) (y : β) : pP put put' l (x, y) = put' (put l x) y := by unfold pP; rfl
theorem tgt_pair {T : Ty ι} {U : Ty β} {sl : Sl α} {sl' : Sl γ} {i j k' : Nat} {x y : Str} {px py : Pos} {get : L → α} {get' : L1 → γ} {put : L → ι → L1} {put' : L1 → β → S} (hc : X.calm = true) (hN : X.N.Nodup) (hi : X.N[i]? = some x) (hx : Loc X.env.scope x) (hj : X.N[j]? = some y) (hy : Loc X.env.scope y)
    (at_ : At Gl i sl get (sR (fz T)) G1 put) (at' : At G1 j sl' get' (sR (fz U)) G put')
    (mk : PG X (.Name x px) (gName i) → PG X (.Name y py) (gName j) → PG X (.Tuple [.Name x px, .Name y py] k' pos) (gTup X.K 2 (gCons (gName i) (gCons (gName j) gNil))))
    (hf : X.fn x = true ∨ X.env.scope.names.lookup x = some .local := by first | exact .inl rfl | exact .inr rfl | assumption) (hf' : X.fn y = true ∨ X.env.scope.names.lookup y = some .local := by first | exact .inl rfl | exact .inr rfl | assumption) :
    Tgt X (.Tuple [.Name x px, .Name y py] k' pos) (tP2 T U) Gl G (pP put put') [i, j] := by
  unfold pP
  refine ⟨_, mk (pg_name hN hi hx hf) (pg_name hN hj hy hf'), fun l F σ H A v z Q g s ⟨a, v1, v2, ev, q, r1, r2⟩ h => ?_⟩
  refine ⟨a, [v1, v2], ev, SqT.of (s _ _ q), rfl, v1, [v2], rfl, v2, [], rfl, rfl, ?_⟩
  obtain ⟨o, L, C, R', q1, q2, _, st⟩ := at_.at_ l F σ A g
  subst q2
  have g1 := st F (some v1) z.1 [] (Same.refl _) ⟨v1, rfl, rfl, r1⟩
  obtain ⟨o2, L2, C2, R2, q3, q4, _, st2⟩ := at'.at_ _ F _ _ g1
  refine h _ _ (st2 F (some v2) z.2 [] (Same.refl _) ⟨v2, rfl, rfl, r2⟩) ((sub_mid L2 C2 R2).trans (q4 ▸ sub_mid L C R')) ?_
  refine wipe_eq (by simp) fun k hk => ?_
  rw [List.getElem?_set_ne (fun z => hk (by simp [z])), List.getElem?_set_ne (fun z => hk (by simp [z]))]

/-- a, b = value (a pair) -/
theorem sm_unpack {T : Ty ι} {R : Rl ι} {f : S → Res (ι × S)} {put : S → ι → S'} {vs : List Nat} {tgt : Expr} (tg : Tgt X tgt T G G' put vs) (h : EM XR W X p G e (fz T) f)
    (mk : ∀ te g, PE X e te → PG X tgt g → PS X (.Assign [tgt] e pos) (tAsg te g)) : SM XR W X Rr Gb G (.Assign [tgt] e pos) G' (fun s => (f s).out fun r => .nx (put r.2 r.1)) := by
  obtain ⟨t, ht, h⟩ := h
  obtain ⟨g, hg, tg⟩ := tg
  refine ⟨_, mk _ _ ht hg, fun s F σ H A D gg k w => h s F σ H A _ gg k (WPE.bindS (p1 := p) w fun x s1 v F1 H1 B A1 ⟨rB, r1⟩ g1 e1 w => ?_)⟩
  subst rB
  exact tg s1 F1 σ H1 A1 v x _ g1 e1.holds.fz r1 fun σ' A' g2 sb _ => w F1 σ' H1 A' g2 (e1.sub sb)

/-! ### what is walked -/
structure WalkOk (J : It) (F : Hp) (T : Ty ι) (xs : List ι) : Prop where
  ex : ∃ vs, All2 (T.R F) vs xs ∧ ∀ H2, Same F H2 → (∀ i, i < vs.length → J.go i H2) ∧ (∀ i v H3, J.yld i H2 v H3 → i < vs.length → H3 = H2 ∧ vs[i]? = some v) ∧ J.stop vs.length H2
def WPI (XR : XRel) (W : WX) (σ : St) (T : Ty ι) (G : Ctx S) (F H : Hp) (A : Ow) (Q : It → Hp → Prop) : Res (List ι × S) → Prop
  | .ok (xs, s') => ∀ J F' H' A', WalkOk J F' T xs → G.P s' F' σ A' → Ext F H A F' H' A' → Q J H'
  | .er ex => ∀ cls oe F' H' A', XR ex cls oe H' → Ext F H A F' H' A' → W cls oe σ H'
  | .bad => False
def IM (XR : XRel) (W : WX) (X : Cx) (G : Ctx S) (tg iter : Expr) (T : Ty ι) (f : S → Res (List ι × S)) : Prop :=
  ∃ wi, PI X tg iter wi ∧ ∀ s F σ H A Q, G.P s F σ A → Holds F H A → WPI XR W σ T G F H A Q (f s) → wi σ H Q
theorem im_list {T : Ty ι} {tgt : Expr} {f : S → Res (List ι × S)} (h : EM XR W X p G e (fz (tLst T)) f) : IM XR W X G tgt e T f := by
  obtain ⟨t, ht, h⟩ := h
  refine ⟨_, pi_list ht, fun s F σ H A Q g k w => h s F σ H A _ g k ?_⟩
  cases q : f s with
  | bad => rw [q] at w; exact w
  | er ex => rw [q] at w; exact w
  | ok xs =>
    obtain ⟨x, s1⟩ := xs
    rw [q] at w
    rintro v F1 H1 B A1 ⟨rB, a, vs, ev, q, r⟩ g1 e1 q1
    subst rB
    refine ⟨a, ev, ⟨vs, SqL.of (e1.holds.fz _ _ q)⟩, w _ F1 H1 A1 ⟨vs, r, fun H2 s2 => ⟨fun i hi => ⟨vs, vs[i], SqL.of (s2 _ _ q), List.getElem?_eq_getElem hi⟩, fun i u H3 hy _ => ⟨hy.1, hy.2 vs (SqL.of (s2 _ _ q))⟩, ⟨vs, SqL.of (s2 _ _ q), Nat.le_refl _⟩⟩⟩ g1 e1⟩
theorem im_tup {T : Ty ι} {tgt : Expr} {f : S → Res (List ι × S)} (h : EM XR W X p G e (fz (tTup T)) f) : IM XR W X G tgt e T f := by
  obtain ⟨t, ht, h⟩ := h
  refine ⟨_, pi_tup ht, fun s F σ H A Q g k w => h s F σ H A _ g k ?_⟩
  cases q : f s with
  | bad => rw [q] at w; exact w
  | er ex => rw [q] at w; exact w
  | ok xs =>
    obtain ⟨x, s1⟩ := xs
    rw [q] at w
    rintro v F1 H1 B A1 ⟨rB, a, vs, ev, q, r⟩ g1 e1 q1
    subst rB
    refine ⟨a, ev, ⟨vs, SqT.of (e1.holds.fz _ _ q)⟩, w _ F1 H1 A1 ⟨vs, r, fun H2 s2 => ⟨fun i hi => ⟨vs, vs[i], SqT.of (s2 _ _ q), List.getElem?_eq_getElem hi⟩, fun i u H3 hy _ => ⟨hy.1, hy.2 vs (SqT.of (s2 _ _ q))⟩, ⟨vs, SqT.of (s2 _ _ q), Nat.le_refl _⟩⟩⟩ g1 e1⟩
/-- lo, lo + 1, .. below hi -/
def irange (lo hi : Int) : List Int := (List.range (hi - lo).toNat).map fun i => lo + (i : Nat)
theorem irange_length (lo hi : Int) : (irange lo hi).length = (hi - lo).toNat := by simp [irange]
theorem all2_irange {F : Hp} {lo : Int} : ∀ n : Nat, All2 (tInt.R F) ((List.range n).map fun i => V.int (lo + (i : Nat))) ((List.range n).map fun i => lo + (i : Nat))
  | 0 => trivial
  | n + 1 => by
    rw [List.range_succ, List.map_append, List.map_append]
    exact All2.append (all2_irange n) ⟨rfl, trivial⟩
def mRange (lo hi : Int) : Res (List Int) := if -(2 ^ 62) ≤ lo ∧ lo < 2 ^ 62 ∧ -(2 ^ 62) ≤ hi ∧ hi < 2 ^ 62 then .ok (irange lo hi) else .bad
theorem walk_range {F : Hp} {lo hi : Int} : WalkOk (Itr lo (hi - lo).toNat) F tInt (irange lo hi) := by
  refine ⟨_, all2_irange _, fun H2 s2 => ?_⟩
  have hl : ((List.range (hi - lo).toNat).map fun i => V.int (lo + (i : Nat))).length = (hi - lo).toNat := by simp
  rw [hl]
  refine ⟨fun i hi => hi, fun i v H3 hy hlt => ⟨hy.1, ?_⟩, Nat.le_refl _⟩
  rw [hy.2, List.getElem?_map, List.getElem?_range hlt]
  rfl
theorem im_range1 {f : S → Res (Int × S)} {pp : Pos} {tgt : Expr} (hg : L2.Gl X "range") (hm : X.mg "range" = none) (h : EM XR W X p G a (fz tInt) f) (hs : starEach [a] X.env = [(false, eval a X.env)] := by rfl) :
    IM XR W X G tgt (.Call (.Name "range" pp) [a] [] pos) tInt (fun s => (f s).bind fun r => (mRange 0 r.1).bind fun xs => .ok (xs, r.2)) := by
  obtain ⟨t, ht, h⟩ := h
  refine ⟨_, pi_range1 hg hm (pa_cons ht pa_nil hs) hs, fun s F σ H A Q g k w => h s F σ H A _ g k ?_⟩
  dsimp only at w
  cases q : f s with
  | bad => rw [q] at w; exact w
  | er ex => rw [q] at w; exact w
  | ok xs =>
    obtain ⟨x, s1⟩ := xs
    rw [q] at w
    rintro v F1 H1 B A1 ⟨rB, r⟩ g1 e1 q1
    subst rB
    have r : v = .int x := r
    subst r
    simp only [Res.bind_ok] at w
    unfold mRange at w
    by_cases hb : -(2 ^ 62) ≤ (0 : Int) ∧ (0 : Int) < 2 ^ 62 ∧ -(2 ^ 62) ≤ x ∧ x < 2 ^ 62
    · rw [if_pos hb] at w
      refine ⟨x, rfl, hb.2.2.1, hb.2.2.2, ?_⟩
      have z := w (Itr 0 (x - 0).toNat) F1 H1 A1 walk_range g1 e1
      rwa [show x - 0 = x by omega] at z
    · rw [if_neg hb] at w; exact w.elim
theorem im_range2 {f : S → Res (Int × S)} {f' : S → Res (Int × S)} {pp : Pos} {tgt : Expr} (hg : L2.Gl X "range") (hm : X.mg "range" = none) (h : EM XR W X p1 G a (fz tInt) f) (h' : EM XR W X p2 G b (fz tInt) f') (hs : starEach [a, b] X.env = [(false, eval a X.env), (false, eval b X.env)] := by rfl) (hs2 : starEach [b] X.env = [(false, eval b X.env)] := by rfl)
    (hs3 : starEach [a, b] X.env = (false, eval a X.env) :: starEach [b] X.env := by rfl) :
    IM XR W X G tgt (.Call (.Name "range" pp) [a, b] [] pos) tInt (fun s => (f s).bind fun r => (f' r.2).bind fun r' => (mRange r.1 r'.1).bind fun xs => .ok (xs, r'.2)) := by
  obtain ⟨t, ht, h⟩ := h
  obtain ⟨t', ht', h'⟩ := h'
  refine ⟨_, pi_range2 hg hm (pa_cons ht (pa_cons ht' pa_nil hs2) hs3) hs hs2, fun s F σ H A Q g k w => h s F σ H A _ g k ?_⟩
  dsimp only at w
  cases q : f s with
  | bad => rw [q] at w; exact w
  | er ex => rw [q] at w; exact w
  | ok xs =>
    obtain ⟨x, s1⟩ := xs
    rw [q] at w
    rintro v F1 H1 B A1 ⟨rB, r⟩ g1 e1 q1
    subst rB
    have r : v = .int x := r
    subst r
    refine h' s1 F1 σ H1 A1 _ g1 e1.holds ?_
    simp only [Res.bind_ok] at w
    cases q : f' s1 with
    | bad => rw [q] at w; exact w
    | er ex => rw [q] at w; exact fun cls oe F' H' A' h1 h2 => w cls oe F' H' A' h1 (e1.trans h2)
    | ok xs =>
      obtain ⟨y, s2⟩ := xs
      rw [q] at w
      rintro v F2 H2 B A2 ⟨rB, r⟩ g2 e2 q2
      subst rB
      have r : v = .int y := r
      subst r
      simp only [Res.bind_ok] at w
      unfold mRange at w
      by_cases hb : -(2 ^ 62) ≤ x ∧ x < 2 ^ 62 ∧ -(2 ^ 62) ≤ y ∧ y < 2 ^ 62
      · rw [if_pos hb] at w
        exact ⟨x, y, rfl, hb, w (Itr x (y - x).toNat) F2 H2 A2 walk_range g2 (e1.trans e2)⟩
      · rw [if_neg hb] at w; exact w.elim
end
end TC
namespace TC
open PySem PySem.Spec PyProof.Rows L2

section
variable {XR : XRel} {W : WX} {X : Cx} {S S' S2 S3 L L1 L2' ρ : Type} {G : Ctx S} {G' : Ctx S'} {G2 : Ctx S2} {G3 : Ctx S3} {Gl : Ctx L} {G1 : Ctx L1} {Gb : Ctx L2'} {α β γ ι : Type} {e a b c : Expr} {es : List Expr} {st : Stmt} {sts sts' : List Stmt} {pos : Pos} {p p1 p2 p3 : Bool} {Rr : Rl ρ}

/-! ### for -/
theorem sm_for {T : Ty ι} {fi : S → Res (List ι × S)} {tgt iter : Expr} {body : List Stmt} {m0 : S → L} {put : L → ι → L1} {vs : List Nat} {fb : L1 → Out L L ρ} (hp : PassesOwn (model X.prog X.w) X.A X.env X.xe) (hc : X.calm = true) (hi : IM XR W X G tgt iter T fi) (mv : Mv G Gl m0)
    (tg : Tgt X tgt T Gl G1 put vs) (hb : SS XR W X Rr Gl G1 body Gl fb) (hs : ∀ x, foldedSetIterable iter X.env x = pure x := by intro _; rfl) :
    SM XR W X Rr Gb G (.For tgt iter body [] pos) Gl (fun s => (fi s).out fun r => forM (fun x l => fb (put l x)) r.1 (m0 r.2)) := by
  obtain ⟨wi, hwi, hi⟩ := hi
  obtain ⟨g, hg, tg⟩ := tg
  obtain ⟨tb, htb, hb⟩ := hb
  refine ⟨_, ps_for hp hc hwi hg htb hs, fun s F σ H A D gg k w => hi s F σ H A _ gg k ?_⟩
  dsimp only at w
  cases q : fi s with
  | bad => rw [q] at w; exact w
  | er ex => rw [q] at w; exact fun cls oe F' H' A' h1 h2 => w cls oe F' H' σ A' h1 h2
  | ok xs =>
    obtain ⟨xs, s1⟩ := xs
    rw [q] at w
    simp only [Res.out_ok] at w
    intro J F1 H1 A1 ⟨vs', r, wk⟩ g1 e1
    obtain ⟨F2, A2, g2, e2⟩ := mv.mv s1 F1 H1 σ A1 g1 e1.holds
    let Pv : Nat → St → Hp → Prop := fun i σ' H' => ∃ l F' A', Gl.P l F' σ' A' ∧ Ext F H A F' H' A' ∧ Same F1 F' ∧ WPS XR W Rr Gb Gl F H A D (forM (fun x l => fb (put l x)) (xs.drop i) l)
    refine ⟨fun i m σ' H' => m = xs.length - i ∧ i ≤ xs.length ∧ Pv i σ' H', ⟨xs.length, by simp, Nat.zero_le _, m0 s1, F2, A2, g2, e1.trans e2, e2.fz, w⟩, ?_⟩
    rintro i m σ' H' ⟨rfl, hi', l, F', A', gl, ex, sm, w'⟩
    obtain ⟨go, yld, stop⟩ := wk H' (sm.trans ex.holds.fz)
    rw [r.length] at go yld stop
    by_cases hlt : i < xs.length
    · refine .inr ⟨go i hlt, Pv (i + 1), fun σ'' H'' p' => ⟨xs.length - (i + 1), by omega, rfl, hlt, p'⟩, fun x H3 hy => ?_⟩
      obtain ⟨e3, hv⟩ := yld i x H3 hy hlt
      subst e3
      obtain ⟨v', hv', rx⟩ := r.getD hlt
      rw [hv] at hv'
      cases hv'
      rw [List.drop_eq_getElem_cons hlt, forM_cons] at w'
      refine tg l F' σ' H3 A' x _ _ gl ex.holds.fz (T.mono rx sm) fun σ2 A3 g3 sb _ => ?_
      have ex3 := ex.sub sb
      refine hb _ F' σ2 H3 A3 _ g3 ex3.holds ?_
      cases q2 : fb (put l xs[i]) with
      | bad => rw [q2] at w'; exact w'
      | er ex => rw [q2] at w'; exact fun cls oe F' H' σ' A' h1 h2 => w' cls oe F' H' σ' A' h1 (ex3.trans h2)
      | rt r => rw [q2] at w'; exact fun v F' H' A' h1 h2 => w' v F' H' A' h1 (ex3.trans h2)
      | bk l' => rw [q2] at w'; exact fun F4 σ4 H4 A4 h1 h2 => w' F4 σ4 H4 A4 h1 (ex3.trans h2)
      | nx l' => rw [q2] at w'; exact fun F4 σ4 H4 A4 h1 h2 => ⟨l', F4, A4, h1, ex3.trans h2, sm.trans h2.fz, w'⟩
      | ct l' => rw [q2] at w'; exact fun F4 σ4 H4 A4 h1 h2 => ⟨l', F4, A4, h1, ex3.trans h2, sm.trans h2.fz, w'⟩
    · have ei : i = xs.length := by omega
      subst ei
      rw [List.drop_length] at w'
      exact .inl ⟨stop, w' F' σ' H' A' gl ex⟩

/-! ### while -/
theorem sm_while {c : Expr} {body : List Stmt} {m0 : S → L} {fc : L → Res (Bool × L)} {fb : L → Out L L ρ} (hp : PassesOwn (model X.prog X.w) X.A X.env X.xe) (mv : Mv G Gl m0) (hc : TM XR W X p Gl c fc) (hb : SS XR W X Rr Gl Gl body Gl fb) :
    SM XR W X Rr Gb G (.While c body [] pos) Gl (fun s => whileM fc fb (m0 s)) := by
  obtain ⟨tc, htc, hc⟩ := hc
  obtain ⟨tb, htb, hb⟩ := hb
  refine ⟨_, ps_while hp htc htb, fun s F σ H A D gg k w => ?_⟩
  obtain ⟨F2, A2, g2, e2⟩ := mv.mv s F H σ A gg k
  have nb : (whileM fc fb (m0 s) : Out L L2' ρ) ≠ .bad := fun q => by dsimp only at w; rw [q] at w; exact w
  obtain ⟨n, hn, en⟩ := whileM_exists nb
  dsimp only at w
  rw [en] at w
  refine ⟨fun m σ' H' => ∃ l F' A', Gl.P l F' σ' A' ∧ Ext F H A F' H' A' ∧ WPS XR W Rr Gb Gl F H A D (whileN fc fb m l), ⟨n, m0 s, F2, A2, g2, e2, w⟩, ?_⟩
  rintro m σ' H' ⟨l, F', A', gl, ex, w'⟩
  cases m with
  | zero => exact w'.elim
  | succ m =>
    unfold whileN at w'
    refine hc l F' σ' H' A' _ gl ex.holds ?_
    cases q : fc l with
    | bad => rw [q] at w'; exact w'
    | er x => rw [q] at w'; exact fun cls oe F' H' A' h1 h2 => w' cls oe F' H' σ' A' h1 (ex.trans h2)
    | ok bl =>
      obtain ⟨b, l'⟩ := bl
      rw [q] at w'
      intro F3 H3 A3 g3 e3 _
      have ex3 := ex.trans e3
      cases b with
      | false => rw [if_neg Bool.false_ne_true]; exact w' F3 σ' H3 A3 g3 ex3
      | true =>
        rw [if_pos rfl]
        refine ⟨fun σ4 H4 => ∃ l F' A', Gl.P l F' σ4 A' ∧ Ext F H A F' H4 A' ∧ WPS XR W Rr Gb Gl F H A D (whileN fc fb m l), fun σ4 H4 h => ⟨m, by omega, h⟩, ?_⟩
        refine hb l' F3 σ' H3 A3 _ g3 ex3.holds ?_
        cases q2 : fb l' with
        | bad => simp only [q2] at w'; exact w'
        | er ex => simp only [q2] at w'; exact fun cls oe F' H' σ' A' h1 h2 => w' cls oe F' H' σ' A' h1 (ex3.trans h2)
        | rt r => simp only [q2] at w'; exact fun v F' H' A' h1 h2 => w' v F' H' A' h1 (ex3.trans h2)
        | bk l2 => simp only [q2] at w'; exact fun F4 σ4 H4 A4 h1 h2 => w' F4 σ4 H4 A4 h1 (ex3.trans h2)
        | nx l2 => simp only [q2] at w'; exact fun F4 σ4 H4 A4 h1 h2 => ⟨l2, F4, A4, h1, ex3.trans h2, w'⟩
        | ct l2 => simp only [q2] at w'; exact fun F4 σ4 H4 A4 h1 h2 => ⟨l2, F4, A4, h1, ex3.trans h2, w'⟩

/-! ### comprehensions -/
abbrev W0 : WX := fun _ _ _ _ => False
/-- the context of a comprehension's block -/
structure WipeOk (G : Ctx S) (vs : List Nat) : Prop where
  w : ∀ s F σ A, G.P s F σ A → G.P s F (wipe σ vs) A
theorem wo_nil {vs : List Nat} : WipeOk gnil vs := ⟨fun s F σ A ⟨h1, h2⟩ => ⟨by
  subst h1
  have : (wipe ([] : St) vs).length = 0 := wipe_length [] vs
  exact List.length_eq_zero_iff.mp this, h2⟩⟩
/-- the slots below -/
def down (vs : List Nat) : List Nat := vs.filterMap fun v => if v = 0 then none else some (v - 1)
theorem mem_down {vs : List Nat} {k : Nat} : k ∈ down vs ↔ k + 1 ∈ vs := by
  unfold down
  rw [List.mem_filterMap]
  constructor
  · rintro ⟨v, hv, e⟩
    split at e
    · cases e
    · cases e
      rwa [show v - 1 + 1 = v by omega]
  · intro h
    exact ⟨k + 1, h, by simp⟩
theorem wipe_cons (o : Option V) (σ : St) (vs : List Nat) : wipe (o :: σ) vs = (if 0 ∈ vs then none else o) :: wipe σ (down vs) := by
  apply List.ext_getElem?
  intro k
  rw [wipe_get]
  cases k with
  | zero =>
    by_cases h : 0 ∈ vs
    · simp [h]
    · simp [h]
  | succ k =>
    rw [List.getElem?_cons_succ, List.getElem?_cons_succ, wipe_get]
    by_cases h : k + 1 ∈ vs
    · rw [if_pos h, if_pos (mem_down.mpr h)]
      simp
    · rw [if_neg h, if_neg (fun z => h (mem_down.mp z))]
theorem wo_any {vs : List Nat} (h : WipeOk G (down vs)) : WipeOk (gcons (sAny : Sl α) G) vs := ⟨fun s F σ A ⟨o, σ', B, R, e1, e2, h1, h2⟩ => ⟨if 0 ∈ vs then none else o, wipe σ' (down vs), B, R, by rw [e1, wipe_cons], e2, trivial, h.w _ _ _ _ h2⟩⟩
theorem wo_keep {sl : Sl α} {vs : List Nat} (n : 0 ∉ vs) (h : WipeOk G (down vs)) : WipeOk (gcons sl G) vs := ⟨fun s F σ A ⟨o, σ', B, R, e1, e2, h1, h2⟩ => ⟨o, wipe σ' (down vs), B, R, by rw [e1, wipe_cons, if_neg n], e2, h1, h.w _ _ _ _ h2⟩⟩
/-- back from the block's context -/
structure BackOk (G1 : Ctx L1) (G : Ctx S) (back : L1 → S) : Prop where
  b : ∀ l F σ A, G1.P l F σ A → ∃ A', A'.Sublist A ∧ G.P (back l) F σ A'
theorem bo_refl : BackOk G G (fun s => s) := ⟨fun l F σ A h => ⟨A, List.Sublist.refl _, h⟩⟩
/-- back, the state as it is -/
abbrev BackI (G1 G : Ctx S) : Prop := BackOk G1 G (fun s => s)
theorem bi_refl : BackI G G := bo_refl
theorem bo_cons {sl : Sl α} {back : S → S'} (h : BackOk G G' back) : BackOk (gcons sl G) (gcons sl G') (fun l => (l.1, back l.2)) := ⟨fun l F σ A ⟨o, σ', B, R, e1, e2, h1, h2⟩ => by
  obtain ⟨A', sb, g⟩ := h.b _ _ _ _ h2
  exact ⟨B ++ A', e2 ▸ List.Sublist.append (List.Sublist.refl _) sb, o, σ', B, A', e1, rfl, h1, g⟩⟩
theorem bo_any {sl : Sl α} {f : α → β} {back : S → S'} (h : BackOk G G' back) : BackOk (gcons sl G) (gcons (sAny : Sl β) G') (fun l => (f l.1, back l.2)) := ⟨fun l F σ A ⟨o, σ', B, R, e1, e2, h1, h2⟩ => by
  obtain ⟨A', sb, g⟩ := h.b _ _ _ _ h2
  exact ⟨A', e2 ▸ (sb.trans (List.sublist_append_right _ _)), o, σ', [], A', e1, rfl, trivial, g⟩⟩
theorem bi_cons {S : Type} {G G' : Ctx S} {sl : Sl α} (h : BackI G G') : BackI (gcons sl G) (gcons sl G') := bo_cons h
theorem bi_any {S : Type} {G G' : Ctx S} {sl : Sl α} (h : BackI G G') : BackI (gcons sl G) (gcons (sAny : Sl α) G') := bo_any (f := fun x => x) h
/-- a comprehension's turns; an error in a block has no mirror -/
def compL {ι S β : Type} (body : ι → S → Res (Option β × S)) : List ι → S → Res (List β × S)
  | [], s => .ok ([], s)
  | x :: xs, s => match body x s with
    | .ok (y, s1) => match compL body xs s1 with
      | .ok (ys, s2) => .ok (match y with | some y => y :: ys | none => ys, s2)
      | _ => .bad
    | _ => .bad
def mComp {ι S β : Type} (body : ι → S → Res (Option β × S)) (xs : List ι) (s : S) : Res (List β × S) := if xs.length ≤ sizeLine then compL body xs s else .bad
theorem compL_len {body : ι → S → Res (Option β × S)} : ∀ {xs : List ι} {s : S} {ys : List β} {s' : S}, compL body xs s = .ok (ys, s') → ys.length ≤ xs.length
  | [], s, ys, s', h => by cases h; exact Nat.le_refl _
  | x :: xs, s, ys, s', h => by
    unfold compL at h
    cases q : body x s with
    | bad => rw [q] at h; cases h
    | er e => rw [q] at h; cases h
    | ok r =>
      obtain ⟨y, s1⟩ := r
      rw [q] at h
      dsimp only at h
      cases q2 : compL body xs s1 with
      | bad => rw [q2] at h; cases h
      | er e => rw [q2] at h; cases h
      | ok r2 =>
        obtain ⟨zs, s2⟩ := r2
        rw [q2] at h
        have := compL_len q2
        cases y with
        | none => cases h; exact Nat.le_succ_of_le this
        | some y => cases h; exact Nat.succ_le_succ this
theorem mComp_ne {body : ι → S → Res (Option β × S)} {xs : List ι} {s : S} {ex : Ex} : mComp body xs s ≠ .er ex := by
  have h : ∀ (xs : List ι) (s : S), compL body xs s ≠ .er ex := by
    intro xs
    induction xs with
    | nil => intro s h; cases h
    | cons x xs ih =>
      intro s h
      unfold compL at h
      split at h
      · split at h <;> cases h
      · cases h
  unfold mComp
  split
  · exact h _ _
  · intro h; cases h
theorem wipe_idem (σ : St) (vs : List Nat) : wipe (wipe σ vs) vs = wipe σ vs := wipe_eq (wipe_length _ _) fun k hk => by rw [wipe_get, if_neg hk]
/-- one turn of a block, by its mirror -/
def Turns (T : Ty ι) (U : Ty β) (G : Ctx S) (vs : List Nat) (g : TG) (tt : TT) (te : TE) (body : ι → S → Res (Option β × S)) : Prop :=
  ∀ x s F σ H A v (Q1 : VK) (Q0 : Hp → Prop), G.P s F σ A → wipe σ vs = σ → Holds F H A → T.R F v x →
    (match body x s with
      | .ok (some y, s') => ∀ w F' H' A', U.R F' w y → G.P s' F' σ A' → Ext F H A F' H' A' → Q1 w H'
      | .ok (none, s') => ∀ F' H' A', G.P s' F' σ A' → Ext F H A F' H' A' → Q0 H'
      | _ => False) →
    g v σ H fun σ2 H2 => wipe σ2 vs = σ ∧ tt σ2 H2 fun b H3 => if b = true then te σ2 H3 Q1 else Q0 H3
theorem lc_run {T : Ty ι} {U : Ty β} {vs : List Nat} {g : TG} {tt : TT} {te : TE} {body : ι → S → Res (Option β × S)} (ht : Turns T U G vs g tt te body) (wo : WipeOk G vs) {J : It} {F H : Hp} {A : Ow} {σ : St} {s : S} {xs : List ι} {Q : VK} (wk : WalkOk J F T xs) (hg : G.P s F σ A) (hh : Holds F H A)
    (w : match mComp body xs s with
      | .ok (ys, s') => ∀ v F' H' B A', (oL U).P F' v ys B → G.P s' F' (wipe σ vs) A' → Ext F H A F' H' (B ++ A') → Q v H'
      | _ => False) :
    ∀ D, H D = none → ∃ W : Nat → Nat → Hp → Prop, (∃ m, W 0 m (upd H D (.lst []))) ∧ ∀ i m H, W i m H →
  (J.stop i H ∧ Q (.ref D) H) ∨ (J.go i H ∧ ∃ Nx : Hp → Prop, (∀ H', Nx H' → ∃ m', m' < m ∧ W (i + 1) m' H') ∧ ∀ x H', J.yld i H x H' → g x (wipe σ vs) H' fun σ2 H2 => wipe σ2 vs = wipe σ vs ∧ tt σ2 H2 fun b H3 =>
    if b = true then te σ2 H3 fun y H4 => ∃ acc, H4 D = some (.lst acc) ∧ acc.length < sizeLine ∧ Nx (upd H4 D (.lst (acc ++ [y]))) else Nx H3) := by
  intro D hD
  obtain ⟨vs', r, wk⟩ := wk
  unfold mComp at w
  have hle : xs.length ≤ sizeLine := by
    by_cases z : xs.length ≤ sizeLine
    · exact z
    · rw [if_neg z] at w; exact w.elim
  rw [if_pos hle] at w
  let Pv : Nat → Hp → Prop := fun i H' => ∃ s' ys acc F' A', G.P s' F' (wipe σ vs) A' ∧ Ext F H A F' H' ((D, .lst acc) :: A') ∧ All2 (U.R F') acc ys ∧ acc.length ≤ i ∧ (match compL body (xs.drop i) s' with
      | .ok (zs, s2) => ∀ v F' H' B A', (oL U).P F' v (ys ++ zs) B → G.P s2 F' (wipe σ vs) A' → Ext F H A F' H' (B ++ A') → Q v H'
      | _ => False)
  refine ⟨fun i m H' => m = xs.length - i ∧ i ≤ xs.length ∧ Pv i H', ⟨xs.length, by simp, Nat.zero_le _, s, [], [], F, A, wo.w _ _ _ _ hg, Ext.newO hh hD, trivial, Nat.le_refl _, ?_⟩, ?_⟩
  · rw [List.drop_zero]
    cases q : compL body xs s with
    | bad => rw [q] at w; exact w
    | er e => rw [q] at w; exact w
    | ok r => obtain ⟨ys, s2⟩ := r; rw [q] at w; exact w
  rintro i m H' ⟨rfl, hi, s', ys, acc, F', A', g', ex, ra, la, w'⟩
  obtain ⟨go, yld, stop⟩ := wk H' (ex.fz.trans ex.holds.fz)
  rw [r.length] at go yld stop
  by_cases hlt : i < xs.length
  · refine .inr ⟨go i hlt, Pv (i + 1), fun H'' p' => ⟨xs.length - (i + 1), by omega, rfl, hlt, p'⟩, fun x H3 hy => ?_⟩
    obtain ⟨e3, hv⟩ := yld i x H3 hy hlt
    subst e3
    obtain ⟨v', hv', rx⟩ := r.getD hlt
    rw [hv] at hv'
    cases hv'
    rw [List.drop_eq_getElem_cons hlt] at w'
    unfold compL at w'
    have hA : Holds F' H3 (A' ++ [(D, .lst acc)]) := ex.holds.perm (List.perm_append_comm (l₁ := [(D, HO.lst acc)]) (l₂ := A'))
    have frame : ∀ {F4 H4 A4}, Ext F' H3 A' F4 H4 A4 → Ext F H A F4 H4 ((D, .lst acc) :: A4) := fun {F4 H4 A4} e4 => by
      have z := (Ext.frame hA e4).permL (List.perm_append_comm (l₁ := A') (l₂ := [(D, HO.lst acc)]))
      exact ex.trans (z.perm (List.perm_append_comm (l₁ := A4) (l₂ := [(D, HO.lst acc)])))
    refine ht xs[i] s' F' (wipe σ vs) H3 A' x (fun y H4 => ∃ acc, H4 D = some (.lst acc) ∧ acc.length < sizeLine ∧ Pv (i + 1) (upd H4 D (.lst (acc ++ [y])))) (Pv (i + 1)) g' (wipe_idem _ _) (hA.sub (List.sublist_append_left _ _)) (T.mono rx ex.fz) ?_
    cases q : body xs[i] s' with
    | bad => rw [q] at w'; exact w'
    | er e => rw [q] at w'; exact w'
    | ok yr =>
      obtain ⟨y, s1⟩ := yr
      rw [q] at w'
      dsimp only at w'
      cases y with
      | none =>
        intro F4 H4 A4 g4 e4
        refine ⟨s1, ys, acc, F4, A4, g4, frame e4, U.all ra e4.fz, by omega, ?_⟩
        cases q2 : compL body (xs.drop (i + 1)) s1 with
        | bad => rw [q2] at w'; exact w'
        | er e => rw [q2] at w'; exact w'
        | ok r => rw [q2] at w'; exact w'
      | some y =>
        intro wv F4 H4 A4 ry g4 e4
        have e5 := frame e4
        have hD4 : H4 D = some (.lst acc) := (e5.holds.ow (D, .lst acc) List.mem_cons_self).2
        refine ⟨acc, hD4, by omega, s1, ys ++ [y], acc ++ [wv], F4, A4, g4, e5.trans (Ext.write e5.holds), (U.all ra e4.fz).append ⟨ry, trivial⟩, by simp; omega, ?_⟩
        cases q2 : compL body (xs.drop (i + 1)) s1 with
        | bad => rw [q2] at w'; exact w'
        | er e => rw [q2] at w'; exact w'
        | ok r =>
          rw [q2] at w'
          dsimp only at w' ⊢
          intro v F' H' B A' h1 h2 h3
          refine w' v F' H' B A' ?_ h2 h3
          rwa [List.append_assoc] at h1
  · have ei : i = xs.length := by omega
    subst ei
    rw [List.drop_length] at w'
    refine .inl ⟨stop, ?_⟩
    have w2 : ∀ v F' H' B A', (oL U).P F' v (ys ++ []) B → G.P s' F' (wipe σ vs) A' → Ext F H A F' H' (B ++ A') → Q v H' := w'
    exact w2 _ F' H' [(D, .lst acc)] A' ⟨D, acc, rfl, rfl, by rw [List.append_nil]; exact ra⟩ g' ex
/-- a block's context after the block: the slots as they were -/
structure KeepOk (G : Ctx S) (vs : List Nat) : Prop where
  k : ∀ s F σ σ' A, G.P s F σ A → wipe σ vs = wipe σ' vs → G.P s F σ' A
theorem ko_nil {vs : List Nat} : KeepOk gnil vs := ⟨fun s F σ σ' A ⟨h1, h2⟩ e => ⟨by
  subst h1
  have := congrArg List.length e
  rw [wipe_length, wipe_length] at this
  exact List.length_eq_zero_iff.mp this.symm, h2⟩⟩
theorem ko_split {o : Option V} {σ σ' : St} {vs : List Nat} (e : wipe (o :: σ) vs = wipe σ' vs) : ∃ o' σ2, σ' = o' :: σ2 ∧ wipe σ (down vs) = wipe σ2 (down vs) ∧ (0 ∉ vs → o' = o) := by
  cases σ' with
  | nil =>
    have := congrArg List.length e
    rw [wipe_length, wipe_length] at this
    cases this
  | cons o' σ2 =>
    rw [wipe_cons, wipe_cons] at e
    injection e with e1 e2
    refine ⟨o', σ2, rfl, e2, fun n => ?_⟩
    rw [if_neg n, if_neg n] at e1
    exact e1.symm
theorem ko_any {vs : List Nat} (h : KeepOk G (down vs)) : KeepOk (gcons (sAny : Sl α) G) vs := ⟨fun s F σ σ' A ⟨o, σ1, B, R, e1, e2, h1, h2⟩ e => by
  subst e1
  obtain ⟨o', σ2, rfl, q, _⟩ := ko_split e
  exact ⟨o', σ2, B, R, rfl, e2, trivial, h.k _ _ _ _ _ h2 q⟩⟩
theorem ko_keep {sl : Sl α} {vs : List Nat} (n : 0 ∉ vs) (h : KeepOk G (down vs)) : KeepOk (gcons sl G) vs := ⟨fun s F σ σ' A ⟨o, σ1, B, R, e1, e2, h1, h2⟩ e => by
  subst e1
  obtain ⟨o', σ2, rfl, q, z⟩ := ko_split e
  exact ⟨o', σ2, B, R, rfl, e2, by rw [z n]; exact h1, h.k _ _ _ _ _ h2 q⟩⟩
theorem KeepOk.wipe {vs : List Nat} (h : KeepOk G vs) : WipeOk G vs := ⟨fun s F σ A g => h.k s F σ _ A g (wipe_idem _ _).symm⟩

abbrev Blk (X : Cx) (scope : Scope) (s : Shared) (H : Hp) (C : Addr) (cl : List (Str × Addr)) (fp : List Addr) : Cx := X.blk s H scope (compEnvC scope cl C X.env) fp
open Classical in
theorem all_tgt {scope : Scope} {T : Ty ι} {tgt : Expr} {put : S → ι → L1} {vs : List Nat} (tg : ∀ s H C cl fp, Tgt (Blk X scope s H C cl fp) tgt T G G1 put vs) : ∃ g, (∀ s H C cl fp, PG (Blk X scope s H C cl fp) tgt g) ∧
    ∀ l F σ H A v x Q, G.P l F σ A → Same F H → T.R F v x → (∀ σ' A', G1.P (put l x) F σ' A' → A'.Sublist A → wipe σ' vs = wipe σ vs → Q σ' H) → g v σ H Q :=
  ⟨fun v σ H Q => ∀ s H0 C cl fp, (tg s H0 C cl fp).choose v σ H Q, fun s H C cl fp => ⟨fun pins s' σ H' v u Q I r h => (tg s H C cl fp).choose_spec.1.run pins s' σ H' v u Q I r (h s H C cl fp)⟩,
    fun l F σ H A v x Q h1 h2 h3 h4 s H0 C cl fp => (tg s H0 C cl fp).choose_spec.2 l F σ H A v x Q h1 h2 h3 h4⟩
open Classical in
theorem all_pts {scope : Scope} {ifs : List Expr} {ft : L1 → Res (Bool × L1)} (tt : ∀ s H C cl fp, ∃ t, PTs (Blk X scope s H C cl fp) ifs t ∧ ∀ s F σ H A Q, G1.P s F σ A → Holds F H A → WPT XR W0 false σ G1 F H A s Q (ft s) → t σ H Q) :
    ∃ t, (∀ s H C cl fp, PTs (Blk X scope s H C cl fp) ifs t) ∧ ∀ s F σ H A Q, G1.P s F σ A → Holds F H A → WPT XR W0 false σ G1 F H A s Q (ft s) → t σ H Q :=
  ⟨fun σ H Q => ∀ s H0 C cl fp, (tt s H0 C cl fp).choose σ H Q, fun s H C cl fp => ⟨fun pins s' σ H' Q I h => (tt s H C cl fp).choose_spec.1.run pins s' σ H' Q I (h s H C cl fp)⟩,
    fun s F σ H A Q h1 h2 h3 s0 H0 C cl fp => (tt s0 H0 C cl fp).choose_spec.2 s F σ H A Q h1 h2 h3⟩
open Classical in
theorem all_em {scope : Scope} {elt : Expr} {R : Rl β} {fe : L1 → Res (β × L1)} (te : ∀ s H C cl fp, EM XR W0 (Blk X scope s H C cl fp) p G1 elt R fe) :
    ∃ t, (∀ s H C cl fp, PE (Blk X scope s H C cl fp) elt t) ∧ ∀ s F σ H A Q, G1.P s F σ A → Holds F H A → WPE XR W0 p σ R G1 F H A s Q (fe s) → t σ H Q :=
  ⟨fun σ H Q => ∀ s H0 C cl fp, (te s H0 C cl fp).choose σ H Q, fun s H C cl fp => ⟨fun pins s' σ H' Q I h => (te s H C cl fp).choose_spec.1.run pins s' σ H' Q I (h s H C cl fp)⟩,
    fun s F σ H A Q h1 h2 h3 s0 H0 C cl fp => (te s0 H0 C cl fp).choose_spec.2 s F σ H A Q h1 h2 h3⟩
theorem em_lcG {T : Ty ι} {U : Ty β} {fi : S → Res (List ι × S)} {tgt iter elt : Expr} {ifs : List Expr} {scope : Scope} {own : List (Str × Nat)} {put : S → ι → L1} {back : L1 → S} {ft : L1 → Res (Bool × L1)} {fe : L1 → Res (β × L1)} (hc : X.calm = true) (hN : X.N.Nodup) (hi : IM XR W X G tgt iter T fi)
    (ok : BlkOk X.N X.env.scope scope own) (ko : KeepOk G (own.map (·.2))) (tg : ∀ s H C cl fp, Tgt (Blk X scope s H C cl fp) tgt T G G1 put (own.map (·.2)))
    (tt : ∀ s H C cl fp, ∃ t, PTs (Blk X scope s H C cl fp) ifs t ∧ ∀ s F σ H A Q, G1.P s F σ A → Holds F H A → WPT XR W0 false σ G1 F H A s Q (ft s) → t σ H Q)
    (te : ∀ s H C cl fp, EM XR W0 (Blk X scope s H C cl fp) p G1 elt (fz U) fe) (bo : BackOk G1 G back) (hs : ∀ x, foldedSetIterable iter X.env x = pure x) :
    ∃ wi g tt te, PI X tgt iter wi ∧ (∀ s H C cl fp, PG (Blk X scope s H C cl fp) tgt g) ∧ (∀ s H C cl fp, PTs (Blk X scope s H C cl fp) ifs tt) ∧ (∀ s H C cl fp, PE (Blk X scope s H C cl fp) elt te) ∧
      ∀ s F σ H A Q, G.P s F σ A → Holds F H A → WPE XR W false σ (oL U) G F H A s Q ((fi s).bind fun r => mComp (fun x s => (ft (put s x)).bind fun b => if b.1 then (fe b.2).bind fun q => .ok (some q.1, back q.2) else .ok (none, back b.2)) r.1 r.2) → tLc wi g tt te (own.map (·.2)) σ H Q := by
  obtain ⟨wi, hwi, hi⟩ := hi
  obtain ⟨g, hg, tg⟩ := all_tgt tg
  obtain ⟨t1, ht1, tt⟩ := all_pts tt
  obtain ⟨t2, ht2, te⟩ := all_em te
  refine ⟨wi, g, t1, t2, hwi, hg, ht1, ht2, fun s F σ H A Q gg k w => hi s F σ H A _ gg k ?_⟩
  cases q : fi s with
  | bad => rw [q] at w; exact w
  | er ex => rw [q] at w; exact w
  | ok xs =>
    obtain ⟨xs, s1⟩ := xs
    rw [q] at w
    simp only [Res.bind_ok] at w
    intro J F1 H1 A1 wk g1 e1
    refine lc_run (U := U) (body := fun x s => (ft (put s x)).bind fun b => if b.1 then (fe b.2).bind fun q => .ok (some q.1, back q.2) else .ok (none, back b.2)) ?_ ko.wipe wk g1 e1.holds ?_
    · intro x s F σ H A v Q1 Q0 g0 hw hh rx w'
      refine tg s F σ H A v x _ g0 hh.fz rx fun σ' A' g2 sb ew => ⟨by rw [ew, hw], ?_⟩
      have h2 := hh.sub sb
      have ex2 : Ext F H A F H A' := (Ext.refl hh).sub sb
      refine tt (put s x) F σ' H A' _ g2 h2 ?_
      dsimp only at w'
      cases q3 : ft (put s x) with
      | bad => rw [q3] at w'; exact w'
      | er ex => rw [q3] at w'; exact w'.elim
      | ok br =>
        obtain ⟨b, l1⟩ := br
        rw [q3] at w'
        simp only [Res.bind_ok] at w'
        intro F3 H3 A3 g3 e3 _
        cases b with
        | false =>
          rw [if_neg Bool.false_ne_true]
          simp only [Bool.false_eq_true, if_false] at w'
          obtain ⟨A4, sb4, g4⟩ := bo.b l1 F3 σ' A3 g3
          exact w' F3 H3 A4 (ko.k _ _ _ _ _ g4 ew) (ex2.trans (e3.sub sb4))
        | true =>
          rw [if_pos rfl]
          simp only [if_true] at w'
          refine te l1 F3 σ' H3 A3 _ g3 e3.holds ?_
          cases q4 : fe l1 with
          | bad => rw [q4] at w'; exact w'
          | er ex => rw [q4] at w'; exact w'.elim
          | ok yr =>
            obtain ⟨y, l2⟩ := yr
            rw [q4] at w'
            rintro u F5 H5 B A5 ⟨rB, ru⟩ g5 e5 _
            subst rB
            obtain ⟨A6, sb6, g6⟩ := bo.b l2 F5 σ' A5 g5
            exact w' u F5 H5 A6 ru (ko.k _ _ _ _ _ g6 ew) (ex2.trans (e3.trans (e5.sub sb6)))
    · have nm : ∀ ex, mComp (fun x s => (ft (put s x)).bind fun b => if b.1 = true then (fe b.2).bind fun q => .ok (some q.1, back q.2) else .ok (none, back b.2)) xs s1 ≠ .er ex := fun _ => mComp_ne
      generalize mComp (fun x s => (ft (put s x)).bind fun b => if b.1 = true then (fe b.2).bind fun q => .ok (some q.1, back q.2) else .ok (none, back b.2)) xs s1 = res at w nm ⊢
      cases res with
      | bad => exact w
      | er e => exact absurd rfl (nm e)
      | ok r =>
        obtain ⟨ys, s2⟩ := r
        exact fun v F' H' B A' h1 h2 h3 => w v F' H' B A' h1 (ko.k _ _ _ _ _ h2 (wipe_idem _ _)) (e1.trans h3) (fun z => by cases z)

section
variable {T : Ty ι} {U : Ty β} {fi : S → Res (List ι × S)} {tgt iter elt : Expr} {scope : Scope} {own : List (Str × Nat)} {put : S → ι → L1} {back : L1 → S} {ft : L1 → Res (Bool × L1)} {fe : L1 → Res (β × L1)}
theorem mComp_true (put : S → ι → L1) (back : L1 → S) (fe : L1 → Res (β × L1)) : (fun (x : ι) (s : S) => (Res.ok (true, put s x)).bind fun (b : Bool × L1) => if b.1 = true then (fe b.2).bind fun q => Res.ok (some q.1, back q.2) else .ok (none, back b.2)) = fun x s => (fe (put s x)).bind fun q => .ok (some q.1, back q.2) := rfl
theorem em_lc (hc : X.calm = true) (hN : X.N.Nodup) (hi : IM XR W X G tgt iter T fi)
    (ok : BlkOk X.N X.env.scope scope own) (ko : KeepOk G (own.map (·.2))) (tg : ∀ s H C cl fp, Tgt (Blk X scope s H C cl fp) tgt T G G1 put (own.map (·.2)))
    (te : ∀ s H C cl fp, EM XR W0 (Blk X scope s H C cl fp) p G1 elt (fz U) fe) (bo : BackOk G1 G back) (hs : ∀ x, foldedSetIterable iter X.env x = pure x := by intro _; rfl) :
    EM XR W X false G (.ListComp elt [⟨tgt, iter, [], 0⟩] scope pos) (oL U) (fun s => (fi s).bind fun r => mComp (fun x s => (fe (put s x)).bind fun q => .ok (some q.1, back q.2)) r.1 r.2) := by
  obtain ⟨wi, g, t1, t2, h1, h2, h3, h4, h⟩ := em_lcG (ft := fun l => .ok (true, l)) (ifs := []) hc hN hi ok ko tg (fun s H C cl fp => ⟨_, pts_nil, fun s F σ H A Q g k w => w F H A g (Ext.refl k) (fun z => by cases z)⟩) te bo hs
  exact ⟨_, pe_lc hc hN h1 ok h2 h3 h4 hs, h⟩
theorem em_lcIf {c : Expr} (hc : X.calm = true) (hN : X.N.Nodup) (hi : IM XR W X G tgt iter T fi)
    (ok : BlkOk X.N X.env.scope scope own) (ko : KeepOk G (own.map (·.2))) (tg : ∀ s H C cl fp, Tgt (Blk X scope s H C cl fp) tgt T G G1 put (own.map (·.2)))
    (tt : ∀ s H C cl fp, TM XR W0 (Blk X scope s H C cl fp) p1 G1 c ft)
    (te : ∀ s H C cl fp, EM XR W0 (Blk X scope s H C cl fp) p G1 elt (fz U) fe) (bo : BackOk G1 G back) (hs : ∀ x, foldedSetIterable iter X.env x = pure x := by intro _; rfl) :
    EM XR W X false G (.ListComp elt [⟨tgt, iter, [c], 0⟩] scope pos) (oL U) (fun s => (fi s).bind fun r => mComp (fun x s => (ft (put s x)).bind fun b => if b.1 then (fe b.2).bind fun q => .ok (some q.1, back q.2) else .ok (none, back b.2)) r.1 r.2) := by
  obtain ⟨wi, g, t1, t2, h1, h2, h3, h4, h⟩ := em_lcG (ft := ft) (ifs := [c]) hc hN hi ok ko tg (fun s H C cl fp => by
    obtain ⟨t, ht, h⟩ := tt s H C cl fp
    refine ⟨_, pts_one ht, fun s F σ H A Q g k w => h s F σ H A Q g k ?_⟩
    cases q : ft s with
    | bad => rw [q] at w; exact w
    | er ex => rw [q] at w; exact w
    | ok r => obtain ⟨b, s'⟩ := r; rw [q] at w; exact fun F' H' A' h1 h2 _ => w F' H' A' h1 h2 (fun z => by cases z)) te bo hs
  exact ⟨_, pe_lc hc hN h1 ok h2 h3 h4 hs, h⟩
/-- name = [..] on one line -/
theorem sm_setLc {sl : Sl α} {i : Nat} {y : Str} {py spos : Pos} {get : S → α} {put' : S → List β → S'} (hc : X.calm = true) (hN : X.N.Nodup) (hy : X.N[i]? = some y) (hyl : X.env.scope.names.lookup y = some .local) (at_ : At G i sl get (sR (oL U)) G' put')
    (hsw : swapsWith (.ListComp elt [⟨tgt, iter, [], 0⟩] scope pos) (some (.Name y py)) spos.line X.env = pure true) (hi : IM XR W X G tgt iter T fi)
    (ok : BlkOk X.N X.env.scope scope own) (ko : KeepOk G (own.map (·.2))) (tg : ∀ s H C cl fp, Tgt (Blk X scope s H C cl fp) tgt T G G1 put (own.map (·.2)))
    (te : ∀ s H C cl fp, EM XR W0 (Blk X scope s H C cl fp) p G1 elt (fz U) fe) (bo : BackOk G1 G back) (hs : ∀ x, foldedSetIterable iter X.env x = pure x := by intro _; rfl) :
    SM XR W X Rr Gb G (.Assign [.Name y py] (.ListComp elt [⟨tgt, iter, [], 0⟩] scope pos) spos) G' (fun s => ((fi s).bind fun r => mComp (fun x s => (fe (put s x)).bind fun q => .ok (some q.1, back q.2)) r.1 r.2).out fun r => .nx (put' r.2 r.1)) := by
  obtain ⟨wi, g, t1, t2, h1, h2, h3, h4, h⟩ := em_lcG (ft := fun l => .ok (true, l)) (ifs := []) hc hN hi ok ko tg (fun s H C cl fp => ⟨_, pts_nil, fun s F σ H A Q g k w => w F H A g (Ext.refl k) (fun z => by cases z)⟩) te bo hs
  refine ⟨_, ps_setLc hc hN hy hyl hsw h1 ok h2 h3 h4 hs, fun s F σ H A D gg k w => h s F σ H A _ gg k (WPE.bindS (p1 := false) w fun y s1 v F1 H1 B A1 r1 g1 e1 w => ?_)⟩
  obtain ⟨o, L, C, R', q1, q2, _, st⟩ := at_.at_ s1 F1 σ A1 g1
  subst q2
  exact w F1 _ H1 _ (st F1 (some v) y B (Same.refl _) ⟨v, rfl, r1⟩) e1.store
theorem sm_setLcIf {c : Expr} {sl : Sl α} {i : Nat} {y : Str} {py spos : Pos} {get : S → α} {put' : S → List β → S'} (hc : X.calm = true) (hN : X.N.Nodup) (hy : X.N[i]? = some y) (hyl : X.env.scope.names.lookup y = some .local) (at_ : At G i sl get (sR (oL U)) G' put')
    (hsw : swapsWith (.ListComp elt [⟨tgt, iter, [c], 0⟩] scope pos) (some (.Name y py)) spos.line X.env = pure true) (hi : IM XR W X G tgt iter T fi)
    (ok : BlkOk X.N X.env.scope scope own) (ko : KeepOk G (own.map (·.2))) (tg : ∀ s H C cl fp, Tgt (Blk X scope s H C cl fp) tgt T G G1 put (own.map (·.2)))
    (tt : ∀ s H C cl fp, TM XR W0 (Blk X scope s H C cl fp) p1 G1 c ft)
    (te : ∀ s H C cl fp, EM XR W0 (Blk X scope s H C cl fp) p G1 elt (fz U) fe) (bo : BackOk G1 G back) (hs : ∀ x, foldedSetIterable iter X.env x = pure x := by intro _; rfl) :
    SM XR W X Rr Gb G (.Assign [.Name y py] (.ListComp elt [⟨tgt, iter, [c], 0⟩] scope pos) spos) G' (fun s => ((fi s).bind fun r => mComp (fun x s => (ft (put s x)).bind fun b => if b.1 then (fe b.2).bind fun q => .ok (some q.1, back q.2) else .ok (none, back b.2)) r.1 r.2).out fun r => .nx (put' r.2 r.1)) := by
  obtain ⟨wi, g, t1, t2, h1, h2, h3, h4, h⟩ := em_lcG (ft := ft) (ifs := [c]) hc hN hi ok ko tg (fun s H C cl fp => by
    obtain ⟨t, ht, h⟩ := tt s H C cl fp
    refine ⟨_, pts_one ht, fun s F σ H A Q g k w => h s F σ H A Q g k ?_⟩
    cases q : ft s with
    | bad => rw [q] at w; exact w
    | er ex => rw [q] at w; exact w
    | ok r => obtain ⟨b, s'⟩ := r; rw [q] at w; exact fun F' H' A' h1 h2 _ => w F' H' A' h1 h2 (fun z => by cases z)) te bo hs
  refine ⟨_, ps_setLc hc hN hy hyl hsw h1 ok h2 h3 h4 hs, fun s F σ H A D gg k w => h s F σ H A _ gg k (WPE.bindS (p1 := false) w fun y s1 v F1 H1 B A1 r1 g1 e1 w => ?_)⟩
  obtain ⟨o, L, C, R', q1, q2, _, st⟩ := at_.at_ s1 F1 σ A1 g1
  subst q2
  exact w F1 _ H1 _ (st F1 (some v) y B (Same.refl _) ⟨v, rfl, r1⟩) e1.store
end

/-! ### a def by its body -/
structure AnyG {S : Type} (G : Ctx S) (d : S) (n : Nat) : Prop where
  a : ∀ F, G.P d F (List.replicate n none) []
theorem any_nil : AnyG gnil () 0 := ⟨fun F => ⟨rfl, rfl⟩⟩
theorem any_cons {S : Type} {G : Ctx S} {d : S} {n : Nat} {x : α} (h : AnyG G d n) : AnyG (gcons sAny G) (x, d) (n + 1) := ⟨fun F => ⟨none, List.replicate n none, [], [], rfl, rfl, trivial, h.a F⟩⟩
structure StartG {P S : Type} (Z : RA P) (G : Ctx S) (m n : Nat) (init : P → S) : Prop where
  st : ∀ F vs y A, Z.P F vs y A → G.P (init y) F (vs.map some ++ List.replicate n none) A ∧ vs.length = m
@[irreducible] def iS {P S : Type} (init : P → S) : α × P → α × S := fun y => (y.1, init y.2)
@[irreducible] def iZ {P S : Type} (d : S) : P → S := fun _ => d
theorem iS_eq {P S : Type} (init : P → S) (x : α) (y : P) : iS init (x, y) = (x, init y) := by unfold iS; rfl
theorem iZ_eq {P S : Type} (d : S) (y : P) : iZ d y = d := by unfold iZ; rfl
theorem st_nil {S : Type} {G : Ctx S} {d : S} {n : Nat} (h : AnyG G d n) : StartG anil G 0 n (iZ d) := by
  unfold iZ
  exact ⟨fun F vs y A ⟨e1, e2⟩ => by subst e1 e2; exact ⟨h.a F, rfl⟩⟩
theorem st_cons {P S : Type} {Z : RA P} {G : Ctx S} {m n : Nat} {init : P → S} {R : Rl α} (h : StartG Z G m n init) : StartG (acons R Z) (gcons (sR R) G) (m + 1) n (iS init) := by
  unfold iS
  exact ⟨fun F vs y A ⟨v, r, B, C, e1, e2, h1, h2⟩ => by
  subst e1 e2
  obtain ⟨g, hl⟩ := h.st F r y.2 C h2
  exact ⟨⟨some v, _, B, C, rfl, rfl, ⟨v, rfl, h1⟩, g⟩, by rw [List.length_cons, hl]⟩⟩
/-- what stands behind the body's last statement -/
structure FallOk {S : Type} (G : Ctx S) (Rr : Rl ρ) (fall : S → Res ρ) : Prop where
  f : ∀ s F σ A r, fall s = .ok r → G.P s F σ A → ∃ A', A'.Sublist A ∧ Rr.P F .non r A'
  ne : ∀ s ex, fall s ≠ .er ex
theorem fall_bad {S : Type} {G : Ctx S} {Rr : Rl ρ} : FallOk G Rr (fun _ => .bad) := ⟨fun _ _ _ _ _ h => (by cases h), fun _ _ h => (by cases h)⟩
theorem fn_ok {P : Program} {w : World} {K : PySem.W.Frag} {mg : Str → Option Value} {base : Heap} {x qual : Str} {st : Stmt} {f : Addr} {fd : FuncData} {N ps : List Str} {k : Nat} {ι P' S0 S1 : Type} {Z : ι → RA P'} {R : ι → Rl ρ} {G0 : ι → Ctx S0} {G1 : ι → Ctx S1} {init : P' → S0} {fb : S0 → Out S1 Unit ρ} {fall : S1 → Res ρ}
    (F : Fun K x qual st f fd) (S : FnScope N ps (defScope st)) {m n : Nat} (hm : ps.length = m) (hn : N.length - m = n) (start : ∀ i, StartG (Z i) (G0 i) m n init) (hf : ∀ i, FallOk (G1 i) (R i) fall)
    (body : ∀ (i : ι) (cdv : Value) (A : Around) (outer : List Env) (s : Shared) (H : Hp) (E : XK), Room k (A.deeper (envOfC qual (defScope st) s.heap.objs.size f cdv)) →
      SS XR (fun cls d _ H => E cls d H) (cxOf (L2.CX P w) P w K mg base N qual (defScope st) f cdv A outer s H E) (R i) gnil (G0 i) (defBody st) (G1 i) fb) :
    FnOk P w K mg base (L2.CX P w) (k + 1) f fd ps (spF XR Z R (fun y => (fb (init y)).res fall)) := by
  refine F.okX S (fun vs H Q E h => ?_) (fun cdv A outer s H vs Q E hr h => ?_)
  · obtain ⟨i, y, F', A', hz, _⟩ := h
    rw [((start i).st _ _ _ _ hz).2, hm]
  · obtain ⟨i, y, F', A', hz, hh, w'⟩ := h
    obtain ⟨g, hl⟩ := (start i).st _ _ _ _ hz
    obtain ⟨t, ht, hb⟩ := body i cdv A outer s H E hr
    dsimp only at w'
    refine ⟨t, ht, hb (init y) F' _ H A' _ (by unfold L2.start; rw [hl, hn]; exact g) hh ?_⟩
    cases q : fb (init y) with
    | bad => rw [q] at w'; exact w'
    | bk l => rw [q] at w'; exact w'.elim
    | ct l => rw [q] at w'; exact w'.elim
    | er ex => rw [q] at w'; exact fun cls oe F' H' σ' A' h1 h2 => w' cls oe F' H' A' h1 h2
    | rt r => rw [q] at w'; exact fun v F' H' A' h1 h2 => w' v F' H' A' h1 h2
    | nx s1 =>
      rw [q] at w'
      intro F1 σ1 H1 A1 g1 e1
      rw [Out.res_nx] at w'
      cases q2 : fall s1 with
      | bad => rw [q2] at w'; exact w'.elim
      | er ex => exact absurd q2 ((hf i).ne _ _)
      | ok r =>
        rw [q2] at w'
        obtain ⟨A2, sb, hr2⟩ := (hf i).f s1 F1 σ1 A1 r q2 g1
        exact w' .non F1 H1 A2 hr2 (e1.sub sb)
end
end TC
namespace TC
open PySem PySem.Spec PyProof.Rows L2

/-! ### records -/
structure FR (α : Type) where
  R : Hp → List (Str × V) → α → Prop
  mono : ∀ {F F' fs x}, R F fs x → Same F F' → R F' fs x
  n : Nat
  len : ∀ {F fs x}, R F fs x → fs.length ≤ n
def frNil : FR Unit := ⟨fun _ fs _ => fs = [], fun h _ => h, 0, fun h => by rw [h]; exact Nat.le_refl _⟩
def frC {α β : Type} (fr : FR α) (g : Str) (T : Ty β) : FR (α × β) := ⟨fun F fs x => ∃ fs0 v, fs = putF g v fs0 ∧ fr.R F fs0 x.1 ∧ T.R F v x.2, fun ⟨fs0, v, e, h1, h2⟩ s => ⟨fs0, v, e, fr.mono h1 s, T.mono h2 s⟩, fr.n + 1,
  fun ⟨fs0, v, e, h1, h2⟩ => by rw [e]; exact Nat.le_trans (length_putF _ _ _) (Nat.succ_le_succ (fr.len h1))⟩
structure Has {α β : Type} (fr : FR α) (g : Str) (T : Ty β) (proj : α → β) : Prop where
  h : ∀ F fs x, fr.R F fs x → ∃ v, fs.lookup g = some v ∧ T.R F v (proj x)
structure HasNo {α : Type} (fr : FR α) (g : Str) : Prop where
  h : ∀ F fs x, fr.R F fs x → fs.lookup g = none
theorem has_z {α β : Type} {fr : FR α} {g : Str} {T : Ty β} : Has (frC fr g T) g T (fun x => x.2) := ⟨fun F fs x ⟨fs0, v, e, h1, h2⟩ => ⟨v, by rw [e, lookup_putF, if_pos rfl], h2⟩⟩
theorem has_s {α β γ : Type} {fr : FR α} {g g' : Str} {T : Ty β} {U : Ty γ} {proj : α → β} (ne : ¬ g = g') (h : Has fr g T proj) : Has (frC fr g' U) g T (fun x => proj x.1) := ⟨fun F fs x ⟨fs0, v, e, h1, h2⟩ => by
  obtain ⟨v', q, r⟩ := h.h F fs0 x.1 h1
  exact ⟨v', by rw [e, lookup_putF, if_neg ne]; exact q, r⟩⟩
theorem hn_z {g : Str} : HasNo frNil g := ⟨fun F fs x h => by rw [show fs = [] from h]; rfl⟩
theorem hn_s {α γ : Type} {fr : FR α} {g g' : Str} {U : Ty γ} (ne : ¬ g = g') (h : HasNo fr g) : HasNo (frC fr g' U) g := ⟨fun F fs x ⟨fs0, v, e, h1, h2⟩ => by rw [e, lookup_putF, if_neg ne]; exact h.h F fs0 x.1 h1⟩
def tIns {α : Type} (C : Addr) (fr : FR α) : Ty α := ⟨fun F v x => ∃ a dx fs, v = .ref a ∧ F a = some (.ins C dx fs) ∧ fr.R F fs x, fun ⟨a, dx, fs, e, q, r⟩ s => ⟨a, dx, fs, e, s _ _ q, fr.mono r s⟩⟩
def oInsA {α : Type} (C a : Addr) (fr : FR α) : Rl α := ⟨fun F v x A => v = .ref a ∧ ∃ dx fs, A = [(a, .ins C dx fs)] ∧ fr.R F fs x, fun ⟨e, dx, fs, q, r⟩ s => ⟨e, dx, fs, q, fr.mono r s⟩⟩
/-- what an __init__ hands back -/
def rIni {α : Type} (C a : Addr) (fr : FR α) : Rl α := ⟨fun F v x A => v = .non ∧ ∃ dx fs, A = [(a, .ins C dx fs)] ∧ fr.R F fs x, fun ⟨e, dx, fs, q, r⟩ s => ⟨e, dx, fs, q, fr.mono r s⟩⟩
/-- a wish that does not look at the slots -/
structure WC (W : WX) (E : XK) : Prop where
  w : ∀ cls d σ H, W cls d σ H ↔ E cls d H
theorem wc_fn {E : XK} : WC (fun cls d _ H => E cls d H) E := ⟨fun _ _ _ _ => Iff.rfl⟩
theorem wc_0 : WC W0 (fun _ _ _ => False) := ⟨fun _ _ _ _ => Iff.rfl⟩

section
variable {XR : XRel} {W : WX} {X : Cx} {S S' S2 S3 L L1 L2' ρ P : Type} {G : Ctx S} {G' : Ctx S'} {G2 : Ctx S2} {G3 : Ctx S3} {Gl : Ctx L} {G1 : Ctx L1} {Gb : Ctx L2'} {α β γ ι : Type} {e a b c : Expr} {es : List Expr} {st : Stmt} {sts sts' : List Stmt} {pos : Pos} {p p1 p2 p3 : Bool} {Rr : Rl ρ}

theorem em_fld {fr : FR α} {g : Str} {T : Ty β} {proj : α → β} {C : Addr} {f : S → Res (α × S)} (h : EM XR W X p G e (fz (tIns C fr)) f) (hs : Has fr g T proj) (cl : Cls X.K C) (na : NoAttr X.K C g) (hb : attributeBase e g X.env (eval e X.env) = eval e X.env := by rfl) :
    EM XR W X p G (.Attribute e g pos) (fz T) (fun s => (f s).bind fun r => .ok (proj r.1, r.2)) := by
  obtain ⟨t, ht, h⟩ := h
  refine ⟨_, pe_fld ht hb, fun s F σ H A Q gg k w => h s F σ H A _ gg k (WPE.bind w fun x s1 v F1 H1 B A1 ⟨rB, a, dx, fs, ev, q, r⟩ g1 e1 q1 w => ?_)⟩
  subst rB
  obtain ⟨u, l, ru⟩ := hs.h _ _ _ r
  exact ⟨a, C, dx, fs, u, ev, e1.holds.fz _ _ q, cl, na, l, w u F1 H1 [] A1 ⟨rfl, ru⟩ g1 e1 q1⟩
/-- self.g = value, in an __init__ -/
theorem sm_fldNew {fr : FR α} {g : Str} {T : Ty β} {C ad : Addr} {f : S → Res (β × S)} {i : Nat} {x : Str} {pp pos' : Pos} {get : S → α} {put : S → α × β → S'} (hN : X.N[i]? = some x) (hv : Vis X.env.scope x) (at_ : At G i (sR (oInsA C ad fr)) get (sR (oInsA C ad (frC fr g T))) G' put) (h : EM XR W X p G e (fz T) f)
    (cl : Cls X.K C) (na : NoAttr X.K C g) (hn : fr.n < 1000) (hs : swapsWith e (some (.Attribute (.Name x pp) g pos')) pos.line X.env = pure false := by rfl)
    (hd : (x == ("__debug__" : Str)) = false := by decide) (hcd : (x == ("__classdict__" : Str)) = false := by decide) :
    SM XR W X Rr Gb G (.Assign [.Attribute (.Name x pp) g pos'] e pos) G' (fun s => (f s).out fun r => .nx (put r.2 (get r.2, r.1))) := by
  obtain ⟨t, ht, h⟩ := h
  refine ⟨_, ps_fld (pe_var hN hv hd hcd) ht hs, fun s F σ H A D gg k w => h s F σ H A _ gg k (WPE.bindS (p1 := p) w fun y s1 v F1 H1 B A1 ⟨rB, r1⟩ g1 x1 w => ?_)⟩
  subst rB
  obtain ⟨o, L, B, R', e1, e2, ⟨u, rfl, rfl, dx, fs, e4, r⟩, st⟩ := at_.at_ s1 F1 σ A1 g1
  subst e4 e2
  have hl : H1 ad = some (.ins C dx fs) := (x1.holds.ow (ad, .ins C dx fs) (by simp)).2
  have hw : Ext F1 H1 [(ad, .ins C dx fs)] F1 (upd H1 ad (.ins C dx (putF g v fs))) [(ad, .ins C dx (putF g v fs))] := Ext.write (x1.holds.sub ((List.sublist_append_left _ _).trans (List.sublist_append_right _ _)))
  have gg := st F1 (some (.ref ad)) (get s1, y) [(ad, .ins C dx (putF g v fs))] (Same.refl _) ⟨.ref ad, rfl, rfl, dx, _, rfl, fs, v, rfl, r, r1⟩
  rw [set_same e1] at gg
  exact ⟨.ref ad, e1, ad, C, dx, fs, rfl, hl, cl, na, Nat.lt_of_le_of_lt (fr.len r) hn, w F1 σ _ _ gg (x1.trans (Ext.frameMid (L := L) (A := [(ad, .ins C dx fs)]) (R := R') x1.holds hw))⟩
theorem fall_ini {fr : FR α} {C ad : Addr} {i : Nat} {get : S → α} {put : S → α → S} (at_ : At G i (sR (oInsA C ad fr)) get (sR (oInsA C ad fr)) G put) : FallOk G (rIni C ad fr) (fun s => .ok (get s)) := ⟨fun s F σ A r er g => by
  cases er
  obtain ⟨o, L, B, R', e1, e2, ⟨u, rfl, rfl, dx, fs, e4, r⟩, st⟩ := at_.at_ s F σ A g
  subst e4 e2
  exact ⟨[(ad, .ins C dx fs)], (List.sublist_append_left _ _).trans (List.sublist_append_right _ _), rfl, dx, fs, rfl, r⟩, fun s ex h => by cases h⟩
abbrev spI {P : Type} (XR : XRel) (C : Addr) (fr : FR α) (Z : RA P) (m : Unit × P → Res α) : Sp := spF XR (fun a : Addr => acons (oInsA C a frNil) Z) (fun a => rIni C a fr) m
/-- C(..), an own class -/
theorem em_make {E : XK} {fr : FR α} {C fi : Addr} {k : Nat} {fd : FuncData} {ps : List Str} {x : Str} {pp : Pos} {Z : RA P} {m : Unit × P → Res α} {fargs : S → Res (P × S)} (tk : Takes X W) (wc : WC W E) (M : Mk X.K C fi) (Fk : FnOk X.prog X.w X.K X.mg X.base (L2.CX X.prog X.w) k fi fd ps (spI XR C fr Z m)) (hr : Room (k + 1) X.A) (hg : L2.Gl X x) (hm : X.mg x = some (.ref C)) (hb : Binds X.K fd ps [])
    (ha : AM XR W X p G (e :: es) Z fargs) (hdb : (x == ("__debug__" : Str)) = false := by decide) (he : starEach (e :: es) X.env = (false, eval e X.env) :: starEach es X.env := by rfl) (hpl : (backTo pos (starEach es X.env)).any (·.1) = false := by rfl) :
    EM XR W X p G (.Call (.Name x pp) (e :: es) [] pos) (fz (tIns C fr)) (fun s => (fargs s).bind fun r1 => (m ((), r1.1)).bind fun z => .ok (z, r1.2)) := by
  obtain ⟨t, ht, h⟩ := ha
  refine ⟨_, pe_make (dvs := []) M Fk hr hg hm hb .nil (passes_call tk fun cls d σ H q => (wc.w cls d σ H).mpr q) ht hdb he hpl, fun s F σ H A Q g kk w => h s F σ H A _ g kk (WPA.bindE w fun y s1 vs F1 H1 B A1 r1 g1 e1 q1 w => ?_)⟩
  intro ax dx hx hdx ne
  have n2 : upd H1 dx (.own ax) ax = none := by rw [upd_ne ne.symm]; exact hx
  have k1 : Ext F1 H1 (B ++ A1) F1 (upd H1 dx (.own ax)) (B ++ A1) := (Ext.newO e1.holds hdx).sub (List.sublist_cons_self _ _)
  have k2 : Ext F1 H1 (B ++ A1) F1 (upd (upd H1 dx (.own ax)) ax (.ins C dx [])) ((ax, .ins C dx []) :: (B ++ A1)) := k1.trans (Ext.newO k1.holds n2)
  rw [List.append_nil]
  refine ⟨ax, ((), y), F1, (ax, .ins C dx []) :: B, ⟨.ref ax, vs, [(ax, .ins C dx [])], B, rfl, rfl, ⟨rfl, dx, [], rfl, rfl⟩, r1⟩, k2.holds.sub (List.Sublist.cons_cons _ (List.sublist_append_left _ _)), ?_⟩
  cases q : m ((), y) with
  | bad => dsimp only at w; rw [q] at w; exact w.elim
  | er ex =>
    dsimp only at w
    rw [q] at w
    exact fun cls oe F' H' A' h1 h2 => (wc.w cls oe σ H').mp (w cls oe F' H' (A' ++ A1) h1 ((e1.trans k2).trans (Ext.frame (A := (ax, .ins C dx []) :: B) (B := A1) k2.holds h2)))
  | ok z =>
    dsimp only at w
    rw [q] at w
    rintro v F' H' A' ⟨rfl, dx', fs', rfl, rz⟩ h2
    refine ⟨rfl, ?_⟩
    have fr1 := Ext.frame (A := (ax, .ins C dx []) :: B) (B := A1) k2.holds h2
    have fz1 : Ext F' H' ((ax, .ins C dx' fs') :: A1) (upd F' ax (.ins C dx' fs')) H' A1 := Ext.freeze fr1.holds
    exact w _ _ H' [] A1 ⟨rfl, ax, dx', fs', rfl, upd_same, fr.mono rz fz1.fz⟩ (G.mono (G.mono g1 h2.fz) fz1.fz) (((e1.trans k2).trans fr1).trans fz1) q1

/-! ### list concatenation, repetition -/
theorem em_catL {T : Ty α} {fa fb : S → Res (List α × S)} (ha : EM XR W X p1 G a (fz (tLst T)) fa) (hb : EM XR W X p2 G b (fz (tLst T)) fb) :
    EM XR W X (p1 && p2) G (.BinOp a .Add b pos) (oL T) (fun s => (fa s).bind fun r1 => (fb r1.2).bind fun r2 => (mCat r1.1 r2.1).bind fun z => .ok (z, r2.2)) :=
  em_op2 (T1 := tLst T) (T2 := tLst T) (g := mCat) (fun _ _ => pe_op op_cat) (fun F H v u x y Q ⟨a, vs, ev, q, r⟩ ⟨b, us, eu, q', r'⟩ s h nb _ => by
    unfold mCat at h nb
    by_cases hz : x.length + y.length ≤ sizeLine
    · rw [if_pos hz] at h
      exact ⟨a, b, vs, us, ev, eu, s _ _ q, s _ _ q', by rw [r.length, r'.length]; exact hz, fun p n => lay_list (r.append r') s n (h _ rfl)⟩
    · rw [if_neg hz] at nb; exact absurd rfl nb) (fun x y ex => by unfold mCat; exact ifne) ha hb
def mRep {α : Type} (xs : List α) (k : Int) : Res (List α) := if -(2 ^ 63) ≤ k ∧ k < 2 ^ 63 ∧ xs.length * k.toNat ≤ sizeLine then .ok (List.replicate k.toNat xs).flatten else .bad
theorem All2.rep {R : V → α → Prop} {vs : List V} {xs : List α} (h : All2 R vs xs) : ∀ n, All2 R (List.replicate n vs).flatten (List.replicate n xs).flatten
  | 0 => trivial
  | n + 1 => by
    rw [List.replicate_succ, List.replicate_succ, List.flatten_cons, List.flatten_cons]
    exact h.append (All2.rep h n)

/-! ### isinstance -/
theorem em_isC {T : Ty α} {nm : String} {y : Str} {pp pq : Pos} {g : α → Bool} {f : S → Res (α × S)} (hg : L2.Gl X "isinstance") (hm : X.mg "isinstance" = none) (hgy : L2.Gl X y) (hmy : X.mg y = none) (hvy : bootBuiltins y = some (.type nm))
    (ty : ∀ F H v x, T.R F v x → Same F H → ∃ t, TyX X.K H v t ∧ PySem.W.kitOne X.K t (.type nm) = some (g x)) (h : EM XR W X p G e (fz T) f)
    (hs : starEach [e, .Name y pq] X.env = (false, eval e X.env) :: starEach [.Name y pq] X.env := by rfl) (hs2 : starEach [.Name y pq] X.env = [(false, eval (.Name y pq) X.env)] := by rfl) (hpl : (backTo pos (starEach [.Name y pq] X.env)).any (·.1) = false := by rfl)
    (hn : y ≠ "__name__" := by decide) (hd : (y == ("__debug__" : Str)) = false := by decide) :
    EM XR W X p G (.Call (.Name "isinstance" pp) [e, .Name y pq] [] pos) (fz tBool) (fun s => (f s).bind fun r => .ok (g r.1, r.2)) := by
  obtain ⟨t, ht, h⟩ := h
  refine ⟨_, pe_callB call_isi hg hm (by decide +kernel) (pa_cons ht (pa_cons (pe_bltn (v := .ty nm) hgy hmy hvy rfl hn hd) pa_nil hs2) hs) (he := hs) (hpl := hpl), fun s F σ H A Q gg k w => h s F σ H A _ gg k (WPE.bind w fun x s1 v F1 H1 B A1 ⟨rB, r1⟩ g1 e1 q1 w => ?_)⟩
  subst rB
  obtain ⟨tt, h1, h2⟩ := ty F1 H1 v x r1 e1.holds.fz
  exact ⟨v, .ty nm, tt, .type nm, g x, rfl, .ty nm, h1, h2, w _ F1 H1 [] A1 ⟨rfl, rfl⟩ g1 e1 q1⟩
theorem is_lst {K : PySem.W.Frag} {T : Ty α} : ∀ F H v (x : List α), (tLst T).R F v x → Same F H → ∃ t, TyX K H v t ∧ PySem.W.kitOne K t (.type "list") = some true := fun F H v x ⟨a, vs, e, q, r⟩ s => ⟨.type "list", by rw [e]; exact .base (.lst (s _ _ q)), kit_ty (by decide +kernel)⟩
theorem is_tup {K : PySem.W.Frag} {T : Ty α} : ∀ F H v (x : List α), (tTup T).R F v x → Same F H → ∃ t, TyX K H v t ∧ PySem.W.kitOne K t (.type "tuple") = some true := fun F H v x ⟨a, vs, e, q, r⟩ s => ⟨.type "tuple", by rw [e]; exact .base (.tup (s _ _ q)), kit_ty (by decide +kernel)⟩
theorem is_bool {K : PySem.W.Frag} : ∀ F H v (x : Bool), tBool.R F v x → Same F H → ∃ t, TyX K H v t ∧ PySem.W.kitOne K t (.type "bool") = some true := fun F H v x e s => ⟨.type "bool", by rw [show v = .bl x from e]; exact .base (.bl x), kit_ty (by decide +kernel)⟩
theorem is_optL {K : PySem.W.Frag} {T : Ty α} : ∀ F H v (x : Option (List α)), (tOpt (tLst T)).R F v x → Same F H → ∃ t, TyX K H v t ∧ PySem.W.kitOne K t (.type "list") = some x.isSome := fun F H v x r s => by
  cases x with
  | none => exact ⟨.type "NoneType", by rw [show v = .non from r]; exact .base .non, kit_ty (show kitB "NoneType" "list" = some false by decide +kernel)⟩
  | some y => obtain ⟨_, a, vs, e, q, r⟩ := r; exact ⟨.type "list", by rw [e]; exact .base (.lst (s _ _ q)), kit_ty (show kitB "list" "list" = some true by decide +kernel)⟩

/-! ### data -/
def eqInt {K : PySem.W.Frag} : EqT K tInt := ⟨PyData.int, fun r => by rw [show _ = V.int _ from r]; exact .int _, fun _ => rfl, 0, fun _ => Nat.le_refl _, fun x y => by rw [PyData.eqv]; exact Bool.beq_eq_decide_eq x y⟩
theorem eqvAll_map {K : PySem.W.Frag} {T : Ty α} [DecidableEq α] (c : EqT K T) : ∀ xs ys : List α, PyData.eqvAll (xs.map c.enc) (ys.map c.enc) = decide (xs = ys)
  | [], [] => by simp [PyData.eqvAll]
  | [], _ :: _ => by simp [PyData.eqvAll]
  | _ :: _, [] => by simp [PyData.eqvAll]
  | x :: xs, y :: ys => by
    rw [List.map_cons, List.map_cons, PyData.eqvAll, c.eqv, eqvAll_map c xs ys, Bool.eq_iff_iff]
    simp
theorem dpAll_of {K : PySem.W.Frag} {T : Ty α} [DecidableEq α] (c : EqT K T) {H : Hp} : ∀ {vs : List V} {xs : List α}, All2 (T.R H) vs xs → DpAll K H vs (xs.map c.enc) ∧ PyData.canLayAll0 (xs.map c.enc) = true
  | [], [], _ => ⟨.nil, by simp [PyData.canLayAll0]⟩
  | _ :: _, _ :: _, h => by
    obtain ⟨h1, h2⟩ := dpAll_of c h.2
    exact ⟨.cons (c.dp h.1) h1, by rw [List.map_cons, PyData.canLayAll0, c.lay h.1, h2]; rfl⟩
  | [], _ :: _, h => h.elim
  | _ :: _, [], h => h.elim
theorem depthAll_le {f : α → PyData} {d : Nat} (h : ∀ x, (f x).depth ≤ d) : ∀ xs : List α, PyData.depthAll (xs.map f) ≤ d
  | [] => by simp [PyData.depthAll]
  | x :: xs => by
    rw [List.map_cons, PyData.depthAll]
    exact Nat.max_le.mpr ⟨h x, depthAll_le h xs⟩
def eqLst {K : PySem.W.Frag} {T : Ty α} [DecidableEq α] (c : EqT K T) : EqT K (tLst T) := ⟨fun xs => .list (xs.map c.enc), fun ⟨a, vs, e, q, r⟩ => by rw [e]; exact .lst (SqL.of q) (dpAll_of c r).1, fun ⟨a, vs, e, q, r⟩ => by rw [PyData.canLay0]; exact (dpAll_of c r).2,
  c.d + 1, fun xs => by rw [PyData.depth]; exact Nat.succ_le_succ (depthAll_le c.dep xs), fun x y => by rw [PyData.eqv]; exact eqvAll_map c x y⟩
def eqTup {K : PySem.W.Frag} {T : Ty α} [DecidableEq α] (c : EqT K T) : EqT K (tTup T) := ⟨fun xs => .tuple (xs.map c.enc), fun ⟨a, vs, e, q, r⟩ => by rw [e]; exact .tup (SqT.of q) (dpAll_of c r).1, fun ⟨a, vs, e, q, r⟩ => by rw [PyData.canLay0]; exact (dpAll_of c r).2,
  c.d + 1, fun xs => by rw [PyData.depth]; exact Nat.succ_le_succ (depthAll_le c.dep xs), fun x y => by rw [PyData.eqv]; exact eqvAll_map c x y⟩
def eqBool {K : PySem.W.Frag} : EqT K tBool := ⟨PyData.bool, fun r => by rw [show _ = V.bl _ from r]; exact .bl _, fun _ => rfl, 0, fun _ => Nat.le_refl _, fun x y => by rw [PyData.eqv]; exact Bool.beq_eq_decide_eq x y⟩
def eqP2 {K : PySem.W.Frag} {T : Ty α} {U : Ty β} [DecidableEq α] [DecidableEq β] (c : EqT K T) (d : EqT K U) : EqT K (tP2 T U) := ⟨fun x => .tuple [c.enc x.1, d.enc x.2],
  fun ⟨a, v1, v2, e, q, r1, r2⟩ => by rw [e]; exact .tup (SqT.of q) (.cons (c.dp r1) (.cons (d.dp r2) .nil)), fun ⟨a, v1, v2, e, q, r1, r2⟩ => by simp [PyData.canLay0, PyData.canLayAll0, c.lay r1, d.lay r2],
  max c.d d.d + 1, fun x => by
    have h1 := c.dep x.1
    have h2 := d.dep x.2
    simp only [PyData.depth, PyData.depthAll]
    omega,
  fun x y => by
    simp only [PyData.eqv, PyData.eqvAll, c.eqv, d.eqv]
    rw [Bool.eq_iff_iff]
    simp [Prod.ext_iff]⟩
def eqOpt {K : PySem.W.Frag} {T : Ty α} [DecidableEq α] (c : EqT K T) (nn : ∀ x, PyData.eqv .none (c.enc x) = false ∧ PyData.eqv (c.enc x) .none = false) : EqT K (tOpt T) := ⟨fun o => match o with | none => .none | some x => c.enc x,
  fun {H v x} r => by
    cases x with
    | none => rw [show v = .non from r]; exact .non
    | some y => exact c.dp r.2,
  fun {H v x} r => by
    cases x with
    | none => rfl
    | some y => exact c.lay r.2,
  c.d, fun x => by
    cases x with
    | none => exact Nat.zero_le _
    | some y => exact c.dep y,
  fun x y => by
    cases x with
    | none => cases y with
      | none => simp [PyData.eqv]
      | some y => rw [(nn y).1]; simp
    | some x => cases y with
      | none => rw [(nn x).2]; simp
      | some y => rw [c.eqv]; simp⟩

/-! ### dicts -/
section
variable {κ : Type} [DecidableEq κ]
def dGet (d : List (κ × β)) (k : κ) : Option β := (d.find? fun kv => decide (kv.1 = k)).map (·.2)
def dPut (d : List (κ × β)) (k : κ) (v : β) : List (κ × β) :=
  if (d.any fun kv => decide (kv.1 = k)) = true then d.map (fun kv => if kv.1 = k then (kv.1, v) else kv) else d ++ [(k, v)]
def AllK (enc : κ → Key) (R : V → β → Prop) : List (Key × V) → List (κ × β) → Prop
  | [], [] => True
  | p :: ps, q :: qs => p.1 = enc q.1 ∧ R p.2 q.2 ∧ AllK enc R ps qs
  | _, _ => False
variable {enc : κ → Key} {R R' : V → β → Prop}
theorem AllK.length : ∀ {ps : List (Key × V)} {qs : List (κ × β)}, AllK enc R ps qs → ps.length = qs.length
  | [], [], _ => rfl
  | _ :: _, _ :: _, h => congrArg (· + 1) (AllK.length h.2.2)
  | [], _ :: _, h => h.elim
  | _ :: _, [], h => h.elim
theorem AllK.imp (k : ∀ v x, R v x → R' v x) : ∀ {ps : List (Key × V)} {qs : List (κ × β)}, AllK enc R ps qs → AllK enc R' ps qs
  | [], [], _ => trivial
  | _ :: _, _ :: _, h => ⟨h.1, k _ _ h.2.1, AllK.imp k h.2.2⟩
  | [], _ :: _, h => h.elim
  | _ :: _, [], h => h.elim
theorem AllK.get (inj : ∀ x y, enc x = enc y → x = y) {k : κ} : ∀ {ps : List (Key × V)} {qs : List (κ × β)}, AllK enc R ps qs → (match dGet qs k with | none => valV ps (enc k) = none | some y => ∃ v, valV ps (enc k) = some v ∧ R v y)
  | [], [], _ => rfl
  | p :: ps, q :: qs, h => by
    by_cases e : q.1 = k
    · have e1 : dGet (q :: qs) k = some q.2 := by simp [dGet, e]
      rw [e1]
      exact ⟨p.2, valV_pos (by rw [h.1, e]), h.2.1⟩
    · have e1 : dGet (q :: qs) k = dGet qs k := by simp [dGet, e]
      rw [e1, valV_neg (by rw [h.1]; exact fun z => e (inj _ _ z))]
      exact AllK.get inj h.2.2
  | [], _ :: _, h => h.elim
  | _ :: _, [], h => h.elim
theorem AllK.anyK (inj : ∀ x y, enc x = enc y → x = y) {k : κ} : ∀ {ps : List (Key × V)} {qs : List (κ × β)}, AllK enc R ps qs → (ps.any fun kv => decide (kv.1 = enc k)) = (qs.any fun kv => decide (kv.1 = k))
  | [], [], _ => rfl
  | p :: ps, q :: qs, h => by
    rw [List.any_cons, List.any_cons, AllK.anyK inj h.2.2, h.1]
    exact congrArg (· || _) (dec_congr ⟨inj _ _, fun z => by rw [z]⟩)
  | [], _ :: _, h => h.elim
  | _ :: _, [], h => h.elim
theorem AllK.app {k : κ} {v : V} {y : β} (r : R v y) : ∀ {ps : List (Key × V)} {qs : List (κ × β)}, AllK enc R ps qs → AllK enc R (ps ++ [(enc k, v)]) (qs ++ [(k, y)])
  | [], [], _ => ⟨rfl, r, trivial⟩
  | p :: ps, q :: qs, h => ⟨h.1, h.2.1, AllK.app r h.2.2⟩
  | [], _ :: _, h => h.elim
  | _ :: _, [], h => h.elim
theorem AllK.mapK (inj : ∀ x y, enc x = enc y → x = y) {k : κ} {v : V} {y : β} (r : R v y) : ∀ {ps : List (Key × V)} {qs : List (κ × β)}, AllK enc R ps qs → AllK enc R (ps.map fun kv => if kv.1 = enc k then (kv.1, v) else kv) (qs.map fun kv => if kv.1 = k then (kv.1, y) else kv)
  | [], [], _ => trivial
  | p :: ps, q :: qs, h => by
    rw [List.map_cons, List.map_cons]
    by_cases e : q.1 = k
    · rw [if_pos e, if_pos (by rw [h.1, e])]
      exact ⟨h.1, r, AllK.mapK inj r h.2.2⟩
    · rw [if_neg e, if_neg (by rw [h.1]; exact fun z => e (inj _ _ z))]
      exact ⟨h.1, h.2.1, AllK.mapK inj r h.2.2⟩
  | [], _ :: _, h => h.elim
  | _ :: _, [], h => h.elim
theorem AllK.put (inj : ∀ x y, enc x = enc y → x = y) {k : κ} {v : V} {y : β} (r : R v y) {ps : List (Key × V)} {qs : List (κ × β)} (h : AllK enc R ps qs) : AllK enc R (putK ps (enc k) v) (dPut qs k y) := by
  unfold putK dPut
  rw [h.anyK inj]
  by_cases e : (qs.any fun kv => decide (kv.1 = k)) = true
  · rw [if_pos e, if_pos e]; exact h.mapK inj r
  · rw [if_neg e, if_neg e]; exact h.app r
end
/-- a dict whose keys are ints, owned -/
def oD {β : Type} (U : Ty β) : Rl (List (Int × β)) := ⟨fun F v x A => ∃ a kvs, v = .ref a ∧ A = [(a, .dK kvs)] ∧ AllK (fun i : Int => (Sum.inl i : Key)) (U.R F) kvs x, fun ⟨a, vs, e, q, r⟩ s => ⟨a, vs, e, q, AllK.imp (fun _ _ h => U.mono h s) r⟩⟩
theorem inl_inj : ∀ x y : Int, (Sum.inl x : Key) = Sum.inl y → x = y := fun _ _ h => Sum.inl.inj h
section
variable {U : Ty β} {i : Nat} {x : Str} {pp : Pos} {get : S → List (Int × β)} {put : S → List (Int × β) → S}
/-- {k: v} -/
theorem em_disp1 {fk : S → Res (Int × S)} {fv : S → Res (β × S)} (hk : EM XR W X p1 G a (fz tInt) fk) (hv : EM XR W X p2 G b (fz U) fv) :
    EM XR W X false G (.Dict [some a] [b] pos) (oD U) (fun s => (fk s).bind fun r => (fv r.2).bind fun q => .ok ([(r.1, q.1)], q.2)) := by
  obtain ⟨t, ht, h⟩ := hk
  obtain ⟨u, hu, h'⟩ := hv
  refine ⟨_, pe_disp (pps_cons ht hu pps_nil) rfl rfl (fun z => by cases z) (by show 1 ≤ 15; decide), fun s F σ H A Q g k w => ?_⟩
  intro d hd
  have k1 : Ext F H A F (upd H d (.dK [])) ((d, .dK []) :: A) := Ext.newO k hd
  have fr : ∀ {F1 H1 A1 F2 H2 A2}, Ext F H A F1 H1 ((d, HO.dK []) :: A1) → Ext F1 H1 A1 F2 H2 A2 → Ext F H A F2 H2 ((d, HO.dK []) :: A2) := fun {F1 H1 A1 F2 H2 A2} e1 e2 => by
    have hh : Holds F1 H1 (A1 ++ [(d, HO.dK [])]) := e1.holds.perm (List.perm_append_comm (l₁ := [(d, HO.dK [])]) (l₂ := A1))
    have z := (Ext.frame hh e2).permL (List.perm_append_comm (l₁ := A1) (l₂ := [(d, HO.dK [])]))
    exact e1.trans (z.perm (List.perm_append_comm (l₁ := A2) (l₂ := [(d, HO.dK [])])))
  refine h s F σ _ A _ g (k1.holds.sub (List.sublist_cons_self _ _)) ?_
  dsimp only at w
  cases q : fk s with
  | bad => rw [q] at w; exact w
  | er ex => rw [q] at w; exact fun cls oe F' H' A' h1 h2 => w cls oe F' H' _ h1 (fr k1 h2)
  | ok r =>
    obtain ⟨kk, s1⟩ := r
    rw [q] at w
    simp only [Res.bind_ok] at w
    rintro v F1 H1 B A1 ⟨rB, r1⟩ g1 e1 q1
    subst rB
    have r1 : v = .int kk := r1
    subst r1
    have e1' := fr k1 e1
    refine h' s1 F1 σ H1 A1 _ g1 e1.holds ?_
    cases q : fv s1 with
    | bad => rw [q] at w; exact w
    | er ex => rw [q] at w; exact fun cls oe F' H' A' h1 h2 => w cls oe F' H' _ h1 (fr e1' h2)
    | ok r =>
      obtain ⟨y, s2⟩ := r
      rw [q] at w
      rintro u F2 H2 B A2 ⟨rB, r2⟩ g2 e2 q2
      subst rB
      have e2' := fr e1' e2
      have hD : H2 d = some (.dK []) := (e2'.holds.ow (d, .dK []) List.mem_cons_self).2
      refine ⟨hD, [(Sum.inl kk, u)], rfl, by show 1 ≤ 15; decide, ?_⟩
      exact w _ F2 _ [(d, _)] A2 ⟨d, mergeK [] [(Sum.inl kk, u)], rfl, rfl, rfl, r2, trivial⟩ g2 (e2'.trans (Ext.write e2'.holds)) (fun z => by cases z)
/-- k in d, k not in d -/
theorem tm_din {f : S → Res (Int × S)} (hu : X.A.units + 1 < cLine) (hN : X.N[i]? = some x) (hv : Vis X.env.scope x) (at_ : At G i (sR (oD U)) get (sR (oD U)) G put) (h : EM XR W X p G a (fz tInt) f) (hb : behindInMarks .In (.Name x pp) = false := by rfl)
    (hd : (x == ("__debug__" : Str)) = false := by decide) (hcd : (x == ("__classdict__" : Str)) = false := by decide) :
    TM XR W X p G (.Compare a [.In] [.Name x pp] pos) (fun s => (f s).bind fun r => .ok ((dGet (get r.2) r.1).isSome, r.2)) := by
  obtain ⟨t, ht, h⟩ := h
  refine ⟨_, pt_cmp (pc_din hu ht (pe_var hN hv hd hcd)) hb, fun s F σ H A Q g k w => h s F σ H A _ g k (WPE.bindT w fun y s1 v F1 H1 B A1 ⟨rB, r1⟩ g1 e1 q1 w => ?_)⟩
  subst rB
  have r1 : v = .int y := r1
  subst r1
  obtain ⟨o, L, B, R', q1', q2, ⟨u, rfl, d, kvs, rfl, rfl, r⟩, _⟩ := at_.at_ s1 F1 σ A1 g1
  have hl : H1 d = some (.dK kvs) := (e1.holds.ow (d, .dK kvs) (by rw [q2]; simp)).2
  refine ⟨.ref d, q1', d, _, rfl, DGet.k (k := Sum.inl y) hl, (dGet (get s1) y).isSome, ?_, w F1 H1 A1 g1 e1 q1⟩
  have z := r.get inl_inj (k := y)
  cases q : dGet (get s1) y with
  | none => rw [q] at z; rw [show valV kvs (Sum.inl y) = none from z]; rfl
  | some b => rw [q] at z; obtain ⟨v', z, _⟩ := z; rw [z]; rfl
theorem tm_dnotin {f : S → Res (Int × S)} (hu : X.A.units + 1 < cLine) (hN : X.N[i]? = some x) (hv : Vis X.env.scope x) (at_ : At G i (sR (oD U)) get (sR (oD U)) G put) (h : EM XR W X p G a (fz tInt) f) (hb : behindInMarks .NotIn (.Name x pp) = false := by rfl)
    (hd : (x == ("__debug__" : Str)) = false := by decide) (hcd : (x == ("__classdict__" : Str)) = false := by decide) :
    TM XR W X p G (.Compare a [.NotIn] [.Name x pp] pos) (fun s => (f s).bind fun r => .ok (!(dGet (get r.2) r.1).isSome, r.2)) := by
  obtain ⟨t, ht, h⟩ := h
  refine ⟨_, pt_cmp (pc_dnotin hu ht (pe_var hN hv hd hcd)) hb, fun s F σ H A Q g k w => h s F σ H A _ g k (WPE.bindT w fun y s1 v F1 H1 B A1 ⟨rB, r1⟩ g1 e1 q1 w => ?_)⟩
  subst rB
  have r1 : v = .int y := r1
  subst r1
  obtain ⟨o, L, B, R', q1', q2, ⟨u, rfl, d, kvs, rfl, rfl, r⟩, _⟩ := at_.at_ s1 F1 σ A1 g1
  have hl : H1 d = some (.dK kvs) := (e1.holds.ow (d, .dK kvs) (by rw [q2]; simp)).2
  refine ⟨.ref d, q1', d, _, rfl, DGet.k (k := Sum.inl y) hl, !(dGet (get s1) y).isSome, ?_, w F1 H1 A1 g1 e1 q1⟩
  have z := r.get inl_inj (k := y)
  cases q : dGet (get s1) y with
  | none => rw [q] at z; rw [show valV kvs (Sum.inl y) = none from z]; rfl
  | some b => rw [q] at z; obtain ⟨v', z, _⟩ := z; rw [z]; rfl
def mDGet {κ β : Type} [DecidableEq κ] (d : List (κ × β)) (k : κ) : Res β := match dGet d k with
  | some y => .ok y
  | none => .bad
/-- d[k] -/
theorem em_dget {f : S → Res (Int × S)} (hu : X.A.units + 1 < cLine) (hN : X.N[i]? = some x) (hv : Vis X.env.scope x) (at_ : At G i (sR (oD U)) get (sR (oD U)) G put) (h : EM XR W X p G a (fz tInt) f) (hb : NoSl a)
    (hd : (x == ("__debug__" : Str)) = false := by decide) (hcd : (x == ("__classdict__" : Str)) = false := by decide) :
    EM XR W X p G (.Subscript (.Name x pp) a pos) (fz U) (fun s => (f s).bind fun r => (mDGet (get r.2) r.1).bind fun z => .ok (z, r.2)) := by
  obtain ⟨t, ht, h⟩ := h
  refine ⟨_, pe_dget hu (pe_var hN hv hd hcd) ht hb, fun s F σ H A Q g k w => ?_⟩
  obtain ⟨o, L, B, R', q1', q2, ⟨u, rfl, d, kvs, rfl, rfl, r⟩, _⟩ := at_.at_ s F σ A g
  refine ⟨.ref d, q1', h s F σ H A _ g k (WPE.bind w fun y s1 v F1 H1 B A1 ⟨rB, r1⟩ g1 e1 q1 w => ?_)⟩
  subst rB
  have r1 : v = .int y := r1
  subst r1
  obtain ⟨o, L', B, R2, q1'', q2', ⟨u, rfl, d', kvs', rfl, rfl, r'⟩, _⟩ := at_.at_ s1 F1 σ A1 g1
  rw [q1'] at q1''
  cases q1''
  have hl : H1 d = some (.dK kvs') := (e1.holds.ow (d, .dK kvs') (by rw [q2']; simp)).2
  have z := r'.get inl_inj (k := y)
  dsimp only at w
  unfold mDGet at w
  cases q : dGet (get s1) y with
  | none => rw [q] at w; exact w.elim
  | some b =>
    rw [q] at w z
    obtain ⟨v', z, rz⟩ := z
    exact ⟨d, v', rfl, z ▸ DGet.k (k := Sum.inl y) hl, w v' F1 H1 [] A1 ⟨rfl, rz⟩ g1 e1 q1⟩
/-- d.get(k, None) -/
theorem em_dgetN {f : S → Res (Int × S)} {ap cp np : Pos} {j : Nat} (hu : X.A.units + 1 < cLine) (hN : X.N[i]? = some x) (hv : Vis X.env.scope x) (at_ : At G i (sR (oD U)) get (sR (oD U)) G put) (h : EM XR W X p G a (fz tInt) f) (nn : ∀ F v y, U.R F v y → v ≠ .non)
    (m : M2 X (.Name x pp) "get" ap a (.Constant .none j np) cp)
    (hd : (x == ("__debug__" : Str)) = false := by decide) (hcd : (x == ("__classdict__" : Str)) = false := by decide) :
    EM XR W X p G (.Call (.Attribute (.Name x pp) "get" ap) [a, .Constant .none j np] [] cp) (fz (tOpt U)) (fun s => (f s).bind fun r => .ok (dGet (get r.2) r.1, r.2)) := by
  obtain ⟨t, ht, h⟩ := h
  refine ⟨_, pe_dget2 hu (pe_var hN hv hd hcd) ht pe_non m, fun s F σ H A Q g k w => ?_⟩
  obtain ⟨o, L, B, R', q1', q2, ⟨u, rfl, d, kvs, rfl, rfl, r⟩, _⟩ := at_.at_ s F σ A g
  have hl0 : H d = some (.dK kvs) := (k.ow (d, .dK kvs) (by rw [q2]; simp)).2
  refine ⟨.ref d, q1', d, rfl, .inl ⟨kvs, .inl hl0⟩, h s F σ H A _ g k (WPE.bind w fun y s1 v F1 H1 B A1 ⟨rB, r1⟩ g1 e1 q1 w => ?_)⟩
  subst rB
  have r1 : v = .int y := r1
  subst r1
  obtain ⟨o, L', B, R2, q1'', q2', ⟨u, rfl, d', kvs', rfl, rfl, r'⟩, _⟩ := at_.at_ s1 F1 σ A1 g1
  rw [q1'] at q1''
  cases q1''
  have hl : H1 d = some (.dK kvs') := (e1.holds.ow (d, .dK kvs') (by rw [q2']; simp)).2
  have z := r'.get inl_inj (k := y)
  refine ⟨_, DGet.k (k := Sum.inl y) hl, w _ F1 H1 [] A1 ⟨rfl, ?_⟩ g1 e1 q1⟩
  cases q : dGet (get s1) y with
  | none => rw [q] at z; rw [show valV kvs' (Sum.inl y) = none from z]; rfl
  | some b => rw [q] at z; obtain ⟨v', z, rz⟩ := z; rw [z]; exact ⟨nn _ _ _ rz, rz⟩
def mDPut {κ β : Type} [DecidableEq κ] (d : List (κ × β)) (k : κ) (v : β) : Res (List (κ × β)) := if d.length < sizeLine then .ok (dPut d k v) else .bad
/-- d[k] = v -/
theorem sm_dput {f : S → Res (Int × S)} {fv : S → Res (β × S)} {sp : Pos} (hu : X.A.units + 1 < cLine) (hN : X.N[i]? = some x) (hv : Vis X.env.scope x) (at_ : At G i (sR (oD U)) get (sR (oD U)) G put) (h : EM XR W X p1 G a (fz tInt) f) (h' : EM XR W X p2 G e (fz U) fv)
    (hs : swapsWith e (some (.Subscript (.Name x pp) a sp)) pos.line X.env = pure false := by rfl)
    (hd : (x == ("__debug__" : Str)) = false := by decide) (hcd : (x == ("__classdict__" : Str)) = false := by decide) :
    SM XR W X Rr Gb G (.Assign [.Subscript (.Name x pp) a sp] e pos) G (fun s => (fv s).out fun r => (f r.2).out fun q => (mDPut (get q.2) q.1 r.1).out fun z => .nx (put q.2 z)) := by
  obtain ⟨t, ht, h⟩ := h
  obtain ⟨u, hu', h'⟩ := h'
  refine ⟨_, ps_dput hu (pe_var hN hv hd hcd) ht hu' hs, fun s F σ H A D g k w => h' s F σ H A _ g k (WPE.bindS (p1 := p2) w fun y s1 v F1 H1 B1 A1 ⟨rB, r1⟩ g1 x1 w => ?_)⟩
  subst rB
  obtain ⟨o, L, B, R', q1', q2, ⟨u, rfl, d, kvs, rfl, rfl, r⟩, _⟩ := at_.at_ s1 F1 σ A1 g1
  refine ⟨.ref d, q1', h s1 F1 σ H1 A1 _ g1 x1.holds (WPE.bindS (p1 := p1) (w.later x1) fun kk s2 w2 F2 H2 B2 A2 ⟨rB, r2⟩ g2 x2 w => ?_)⟩
  subst rB
  have r2 : w2 = .int kk := r2
  subst r2
  obtain ⟨o, L', B, R2, q1'', q2', ⟨u, rfl, d', kvs', rfl, rfl, r'⟩, st⟩ := at_.at_ s2 F2 σ A2 g2
  rw [q1'] at q1''
  cases q1''
  subst q2'
  have hl : H2 d = some (.dK kvs') := (x2.holds.ow (d, .dK kvs') (by simp)).2
  dsimp only at w
  unfold mDPut at w
  by_cases hz : (get s2).length < sizeLine
  · rw [if_pos hz] at w
    have hw : Ext F2 H2 [(d, .dK kvs')] F2 (upd H2 d (.dK (putK kvs' (Sum.inl kk) v))) [(d, .dK (putK kvs' (Sum.inl kk) v))] := Ext.write (x2.holds.sub ((List.sublist_append_left _ _).trans (List.sublist_append_right _ _)))
    have gg := st F2 (some (.ref d)) (dPut (get s2) kk y) [(d, .dK (putK kvs' (Sum.inl kk) v))] (Same.refl _) ⟨.ref d, rfl, d, _, rfl, rfl, r'.put inl_inj (U.mono r1 x2.fz)⟩
    rw [set_same q1'] at gg
    exact ⟨d, _, rfl, DPut.k (k := Sum.inl kk) hl (by rw [r'.length]; exact hz), w F2 σ _ _ gg (x2.trans (Ext.frameMid (L := L') (A := [(d, .dK kvs')]) (R := R2) x2.holds hw))⟩
  · rw [if_neg hz] at w; exact w.elim
end
end
end TC
namespace TC
open PySem PySem.Spec PyProof.Rows L2
/-! ### the mirrors' words -/
section
variable {S S' S2 L L1 L' ρ α β γ ι P : Type}
def kV (get : S → α) : S → Res (α × S) := fun s => .ok (get s, s)
def kC (c : α) : S → Res (α × S) := fun s => .ok (c, s)
def kF (h : α → β) (f : S → Res (α × S)) : S → Res (β × S) := fun s => (f s).bind fun r => .ok (h r.1, r.2)
def kU (g : α → Res β) (f : S → Res (α × S)) : S → Res (β × S) := fun s => (f s).bind fun r1 => (g r1.1).bind fun z => .ok (z, r1.2)
def kB (g : α → β → Res γ) (f1 : S → Res (α × S)) (f2 : S → Res (β × S)) : S → Res (γ × S) := fun s => (f1 s).bind fun r1 => (f2 r1.2).bind fun r2 => (g r1.1 r2.1).bind fun z => .ok (z, r2.2)
def kCmp (g : α → β → Bool) (f1 : S → Res (α × S)) (f2 : S → Res (β × S)) : S → Res (Bool × S) := fun s => (f1 s).bind fun r1 => (f2 r1.2).bind fun r2 => .ok (g r1.1 r2.1, r2.2)
def kAnd (f g : S → Res (Bool × S)) : S → Res (Bool × S) := fun s => (f s).bind fun r => if r.1 then g r.2 else .ok (false, r.2)
def kOr (f g : S → Res (Bool × S)) : S → Res (Bool × S) := fun s => (f s).bind fun r => if r.1 then .ok (true, r.2) else g r.2
def kIte (c : S → Res (Bool × S)) (a b : S → Res (α × S)) : S → Res (α × S) := fun s => (c s).bind fun r => if r.1 then a r.2 else b r.2
def kChain (g : α → β → Bool) (g' : β → γ → Bool) (fa : S → Res (α × S)) (fb : S → Res (β × S)) (fc : S → Res (γ × S)) : S → Res (Bool × S) := fun s => (fa s).bind fun r1 => (fb r1.2).bind fun r2 => if g r1.1 r2.1 then (fc r2.2).bind fun r3 => .ok (g' r2.1 r3.1, r3.2) else .ok (false, r2.2)
def kIxO (get : S → List α) (fb : S → Res (Int × S)) : S → Res (α × S) := fun s => (fb s).bind fun r2 => (mIx (get r2.2) r2.1).bind fun z => .ok (z, r2.2)
def kLenO (get : S → List α) : S → Res (Int × S) := fun s => .ok (((get s).length : Int), s)
def kNil : S → Res (List α × S) := fun s => .ok ([], s)
def kCons (f : S → Res (α × S)) (g : S → Res (List α × S)) : S → Res (List α × S) := fun s => (f s).bind fun r1 => (g r1.2).bind fun r2 => .ok (r1.1 :: r2.1, r2.2)
def kU0 : S → Res (Unit × S) := fun s => .ok ((), s)
def kPair (f : S → Res (α × S)) (g : S → Res (β × S)) : S → Res ((α × β) × S) := fun s => (f s).bind fun r1 => (g r1.2).bind fun r2 => .ok ((r1.1, r2.1), r2.2)
def kCallL (m : List α × P → Res (ρ × List α)) (get : S → List α) (put : S → List α → S) (fa : S → Res (P × S)) : S → Res (ρ × S) := fun s => (fa s).bind fun r1 => (m (get r1.2, r1.1)).bind fun z => .ok (z.1, put r1.2 z.2)
def kMake (m : Unit × P → Res α) (fa : S → Res (P × S)) : S → Res (α × S) := fun s => (fa s).bind fun r1 => (m ((), r1.1)).bind fun z => .ok (z, r1.2)
def kLc (fi : S → Res (List ι × S)) (put : S → ι → S) (fe : S → Res (β × S)) : S → Res (List β × S) := fun s => (fi s).bind fun r => mComp (fun x s => (fe (put s x)).bind fun q => .ok (some q.1, q.2)) r.1 r.2
def kLcIf (fi : S → Res (List ι × S)) (put : S → ι → S) (ft : S → Res (Bool × S)) (fe : S → Res (β × S)) : S → Res (List β × S) := fun s => (fi s).bind fun r => mComp (fun x s => (ft (put s x)).bind fun b => if b.1 then (fe b.2).bind fun q => .ok (some q.1, q.2) else .ok (none, b.2)) r.1 r.2
def kPop (get : S → List α) (put : S → List α → S) : S → Res (α × S) := fun s => (mPop (get s)).bind fun r => .ok (r.1, put s r.2)
def kDGet (get : S → List (Int × β)) (f : S → Res (Int × S)) : S → Res (β × S) := fun s => (f s).bind fun r => (mDGet (get r.2) r.1).bind fun z => .ok (z, r.2)
def kDGetN (get : S → List (Int × β)) (f : S → Res (Int × S)) : S → Res (Option β × S) := fun s => (f s).bind fun r => .ok (dGet (get r.2) r.1, r.2)
def kDIn (get : S → List (Int × β)) (f : S → Res (Int × S)) : S → Res (Bool × S) := fun s => (f s).bind fun r => .ok ((dGet (get r.2) r.1).isSome, r.2)
def kDNin (get : S → List (Int × β)) (f : S → Res (Int × S)) : S → Res (Bool × S) := fun s => (f s).bind fun r => .ok (!(dGet (get r.2) r.1).isSome, r.2)
def kD1 (fk : S → Res (Int × S)) (fv : S → Res (β × S)) : S → Res (List (Int × β) × S) := fun s => (fk s).bind fun r => (fv r.2).bind fun q => .ok ([(r.1, q.1)], q.2)
def kRange1 (f : S → Res (Int × S)) : S → Res (List Int × S) := fun s => (f s).bind fun r => (mRange 0 r.1).bind fun xs => .ok (xs, r.2)
def kRange2 (f f' : S → Res (Int × S)) : S → Res (List Int × S) := fun s => (f s).bind fun r => (f' r.2).bind fun r' => (mRange r.1 r'.1).bind fun xs => .ok (xs, r'.2)
def kSet (f : S → Res (α × S)) (put : S → α → S') : S → Out S' L ρ := fun s => (f s).out fun r => .nx (put r.2 r.1)
def kExpr (f : S → Res (α × S)) : S → Out S L ρ := fun s => (f s).out fun r => .nx r.2
def kApp (get : S → List α) (put : S → List α → S) (f : S → Res (α × S)) : S → Out S L ρ := fun s => (f s).out fun r => (mApp (get r.2) r.1).out fun z => .nx (put r.2 z)
def kRev (get : S → List α) (put : S → List α → S) : S → Out S L ρ := fun s => .nx (put s (get s).reverse)
def kStore (get : S → List α) (put : S → List α → S) (f : S → Res (α × S)) (fi : S → Res (Int × S)) : S → Out S L ρ := fun s => (f s).out fun r => (fi r.2).out fun q => (mSet (get q.2) q.1 r.1).out fun z => .nx (put q.2 z)
def kAddI (get : S → Int) (put : S → Int → S) (f : S → Res (Int × S)) : S → Out S L ρ := fun s => (f s).out fun r => (mAdd (get s) r.1).out fun z => .nx (put r.2 z)
def kDPut (get : S → List (Int × β)) (put : S → List (Int × β) → S) (f : S → Res (Int × S)) (fv : S → Res (β × S)) : S → Out S L ρ := fun s => (fv s).out fun r => (f r.2).out fun q => (mDPut (get q.2) q.1 r.1).out fun z => .nx (put q.2 z)
def kIf (c : S → Res (Bool × S)) (a b : S → Out S' L ρ) : S → Out S' L ρ := fun s => (c s).out fun r => if r.1 then a r.2 else b r.2
def kFor (fi : S → Res (List ι × S)) (put : S → ι → L1) (fb : L1 → Out S S ρ) : S → Out S L' ρ := fun s => (fi s).out fun r => forM (fun x l => fb (put l x)) r.1 r.2
noncomputable def kWhile (fc : L → Res (Bool × L)) (fb : L → Out L L ρ) : L → Out L L' ρ := fun s => whileM fc fb s
def kNx : S → Out S L ρ := fun s => .nx s
def kSeq (f : S → Out S' L ρ) (g : S' → Out S2 L ρ) : S → Out S2 L ρ := fun s => (f s).seq g
def kRet (f : S → Res (α × S)) : S → Out S' L α := fun s => (f s).out fun r => .rt r.1
def kRetL (get : S → β) (f : S → Res (α × S)) : S → Out S' L (α × β) := fun s => (f s).out fun r => .rt (r.1, get r.2)
def kFldNew (get : S → α) (put : S → α × β → S') (f : S → Res (β × S)) : S → Out S' L ρ := fun s => (f s).out fun r => .nx (put r.2 (get r.2, r.1))
def kBk : L → Out S' L ρ := fun s => .bk s
def kCt : L → Out S' L ρ := fun s => .ct s
def kRun (fb : S → Out S' L ρ) (init : P → S) (fall : S' → Res ρ) : P → Res ρ := fun y => (fb (init y)).res fall
end
theorem SMv.hide {α : Type} {sl : Sl α} : SMv sl (sAny : Sl α) (fun x => x) := SMv.any
section
variable {XR : XRel} {W : WX} {X : Cx} {S S' S2 L ρ α : Type} {G G' : Ctx S} {G2 : Ctx S2} {G3 : Ctx S'} {Gb : Ctx L} {Rr : Rl ρ} {st : Stmt} {sts es : List Expr} {p : Bool} {pos : Pos}
theorem ss_nilI (mv : MvI G G') : SS XR W X Rr Gb G [] G' (kNx : S → Out S L ρ) := ss_nil mv
theorem sm_forI {ι L1 L' S : Type} {G Gl : Ctx S} {Gb : Ctx L'} {G1 : Ctx L1} {T : Ty ι} {fi : S → Res (List ι × S)} {tgt iter : Expr} {body : List Stmt} {put : S → ι → L1} {vs : List Nat} {fb : L1 → Out S S ρ} (hp : PassesOwn (model X.prog X.w) X.A X.env X.xe) (hc : X.calm = true) (hi : IM XR W X G tgt iter T fi) (mv : MvI G Gl)
    (tg : Tgt X tgt T Gl G1 put vs) (hb : SS XR W X Rr Gl G1 body Gl fb) (hs : ∀ x, foldedSetIterable iter X.env x = pure x := by intro _; rfl) :
    SM XR W X Rr Gb G (.For tgt iter body [] pos) Gl (kFor fi put fb) := sm_for hp hc hi mv tg hb hs
theorem sm_whileI {L' S : Type} {G Gl : Ctx S} {Gb : Ctx L'} {c : Expr} {body : List Stmt} {fc : S → Res (Bool × S)} {fb : S → Out S S ρ} (hp : PassesOwn (model X.prog X.w) X.A X.env X.xe) (mv : MvI G Gl) (hc : TM XR W X p Gl c fc) (hb : SS XR W X Rr Gl Gl body Gl fb) :
    SM XR W X Rr Gb G (.While c body [] pos) Gl (kWhile fc fb) := sm_while hp mv hc hb
theorem sm_breakI (mv : MvI G G') : SM XR W X Rr G' G (.Break pos) G2 (kBk : S → Out S2 S ρ) := sm_break mv
theorem sm_continueI (mv : MvI G G') : SM XR W X Rr G' G (.Continue pos) G2 (kCt : S → Out S2 S ρ) := sm_continue mv
theorem sm_retP {R : Rl ρ} {e : Expr} {f : S → Res (ρ × S)} (h : EM XR W X p G e R f) : SM XR W X R Gb G (.Return (some e) pos) G2 (kRet f) := sm_ret pk_plain h
theorem sm_retL {R : Rl ρ} {T : Ty α} {i : Nat} {ad : Addr} {get : S → List α} {put : S → List α → S} {e : Expr} {f : S → Res (ρ × S)} (at_ : At G i (sR (oLa ad T)) get (sR (oLa ad T)) G put) (h : EM XR W X p G e R f) : SM XR W X (rLent R ad T) Gb G (.Return (some e) pos) G2 (kRetL get f) := sm_ret (pk_lent at_) h
theorem ss_mvI {sts : List Stmt} {f : S → Out S2 L ρ} (mv : Mv G G' (fun s => s)) (h : SS XR W X Rr Gb G' sts G2 f) : SS XR W X Rr Gb G sts G2 f := ss_mv mv h
theorem ss_one {f : S → Out S2 L ρ} (h : SM XR W X Rr Gb G st G2 f) : SS XR W X Rr Gb G [st] G2 f := by
  obtain ⟨t, ht, h⟩ := h
  exact ⟨_, pss_one ht, h⟩
structure LenLe (f : S → Res (List α × S)) (n : Nat) : Prop where
  l : ∀ s xs s', f s = .ok (xs, s') → xs.length ≤ n
theorem ln_nil : LenLe (kNil : S → Res (List α × S)) 0 := ⟨fun s xs s' h => by cases h; exact Nat.le_refl _⟩
theorem ln_cons {f : S → Res (α × S)} {g : S → Res (List α × S)} {n : Nat} (h : LenLe g n) : LenLe (kCons f g) (n + 1) := ⟨fun s xs s' e => by
  unfold kCons at e
  cases q : f s with
  | bad => rw [q] at e; cases e
  | er _ => rw [q] at e; cases e
  | ok r =>
    obtain ⟨y, s1⟩ := r
    rw [q] at e
    simp only [Res.bind_ok] at e
    cases q2 : g s1 with
    | bad => rw [q2] at e; cases e
    | er _ => rw [q2] at e; cases e
    | ok r2 =>
      obtain ⟨ys, s2⟩ := r2
      rw [q2] at e
      cases e
      exact Nat.succ_le_succ (h.l _ _ _ q2)⟩
theorem em_lstN {T : Ty α} {f : S → Res (List α × S)} {n : Nat} (h : AM XR W X p G es (aall T) f) (hl : LenLe f n) (hn : n ≤ 1000) : EM XR W X p G (.List es pos) (oL T) f := em_lst h fun s xs s' e => Nat.le_trans (hl.l s xs s' e) (Nat.le_trans hn (by show 1000 ≤ 2 ^ 24; decide))
theorem em_tupN {T : Ty α} {f : S → Res (List α × S)} {n : Nat} {k' : Nat} (h : AM XR W X p G es (aall T) f) (hl : LenLe f n) (hn : n ≤ 1000) : EM XR W X p G (.Tuple es k' pos) (fz (tTup T)) f := em_tupA h fun s xs s' e => Nat.le_trans (hl.l s xs s' e) (Nat.le_trans hn (by show 1000 ≤ 2 ^ 24; decide))
theorem em_globI {x : Str} {c : Int} (hg : L2.Gl X x) (hm : ∃ t, X.mg x = some (.int c t)) (hd : (x == ("__debug__" : Str)) = false := by decide) : EM XR W X true G (.Name x pos) (fz tInt) (kC c) := by
  obtain ⟨t, hm⟩ := hm
  exact em_glob (v := .int c) hg hm ⟨t, rfl⟩ (fun _ => rfl) hd
theorem sm_retO {T : Ty α} {i : Nat} {x : Str} {pp : Pos} {get : S → List α} {put : S → List α → S} {sl : Sl (List α)} [os : OL T sl] {Gb : Ctx L} (hN : X.N[i]? = some x) (hv : Vis X.env.scope x) (at_ : At G i sl get sl G put)
    (hd : (x == ("__debug__" : Str)) = false := by decide) (hcd : (x == ("__classdict__" : Str)) = false := by decide) : SM XR W X (oL T) Gb G (.Return (some (.Name x pp)) pos) G2 (kRet (kV get)) := by
  refine ⟨_, ps_ret (pe_var hN hv hd hcd), fun s F σ H A D g k w => ?_⟩
  obtain ⟨o, L, B, R', e1, e2, hsl, _⟩ := at_.at_ s F σ A g
  obtain ⟨a, vs, rfl, e4, r, _⟩ := os.opn hsl
  subst e4 e2
  exact ⟨.ref a, e1, w (.ref a) F H [(a, .lst vs)] ⟨a, vs, rfl, rfl, r⟩ ((Ext.refl k).sub ((List.sublist_append_left _ _).trans (List.sublist_append_right _ _)))⟩
/-- e in xs, xs a list that stands in a slot -/
theorem inO {β γ : Type} [DecidableEq α] {T : Ty α} (c : Scal T) {neg : Bool} {op : CmpOp} {a : Expr} {i : Nat} {x : Str} {pp : Pos} {get : S → List α} {put : S → List α → S} {sl : Sl (List α)} [os : OL T sl] {f : S → Res (α × S)} (hop : OpR X (compareOp op) (rIn X.K neg)) (hN : X.N[i]? = some x) (hv : Vis X.env.scope x) (at_ : At G i sl get sl G put) (h : EM XR W X p G a (fz T) f)
    (hd : (x == ("__debug__" : Str)) = false := by decide) (hcd : (x == ("__classdict__" : Str)) = false := by decide) :
    ∃ ta, PE X a ta ∧ PE X (.Name x pp) (tVar i) ∧ ∀ s F σ H A (Q : VK), G.P s F σ A → Holds F H A → WPE XR W p σ (fz tBool) G F H A s Q ((f s).bind fun r => .ok (if neg then !decide (r.1 ∈ get r.2) else decide (r.1 ∈ get r.2), r.2)) → tOp (rIn X.K neg) ta (tVar i) σ H Q := by
  obtain ⟨t, ht, h⟩ := h
  refine ⟨t, ht, pe_var hN hv hd hcd, fun s F σ H A Q g k w => h s F σ H A _ g k (WPE.bind w fun y s1 v F1 H1 B A1 ⟨rB, r1⟩ g1 e1 q1 w => ?_)⟩
  subst rB
  obtain ⟨o, L, B, R', q1', q2, hsl, _⟩ := at_.at_ s1 F1 σ A1 g1
  obtain ⟨d, vs, rfl, e4, r, _⟩ := os.opn hsl
  subst e4
  have hl : H1 d = some (.lst vs) := (e1.holds.ow (d, .lst vs) (by rw [q2]; simp)).2
  obtain ⟨z1, z2⟩ := inV_of c (x := y) r
  rw [c.is F1 v y r1]
  refine ⟨.ref d, q1', d, vs, rfl, .inl (SqL.of hl), c.flat y, z2, ?_⟩
  rw [z1]
  exact w _ F1 H1 [] A1 ⟨rfl, rfl⟩ g1 e1 q1
def kInO [DecidableEq α] (get : S → List α) (f : S → Res (α × S)) : S → Res (Bool × S) := fun s => (f s).bind fun r => .ok (decide (r.1 ∈ get r.2), r.2)
def kNinO [DecidableEq α] (get : S → List α) (f : S → Res (α × S)) : S → Res (Bool × S) := fun s => (f s).bind fun r => .ok (!decide (r.1 ∈ get r.2), r.2)
section
variable [DecidableEq α] {T : Ty α} {a : Expr} {i : Nat} {x : Str} {pp : Pos} {get : S → List α} {put : S → List α → S} {sl : Sl (List α)} [os : OL T sl] {f : S → Res (α × S)}
theorem tm_inO (c : Scal T) (hN : X.N[i]? = some x) (hv : Vis X.env.scope x) (at_ : At G i sl get sl G put) (h : EM XR W X p G a (fz T) f) (hm : behindInMarks .In (.Name x pp) = false := by rfl)
    (hd : (x == ("__debug__" : Str)) = false := by decide) (hcd : (x == ("__classdict__" : Str)) = false := by decide) : TM XR W X p G (.Compare a [.In] [.Name x pp] pos) (kInO get f) := by
  obtain ⟨ta, h1, h2, h3⟩ := inO (β := Unit) (γ := Unit) c op_in_seq hN hv at_ h hd hcd
  refine ⟨_, pt_cmpR op_in_seq h1 h2 hm, fun s F σ H A Q g k w => h3 s F σ H A _ g k (WPE.bindT (k := fun r => .ok r) (by rw [show (((f s).bind fun r => Res.ok (if false = true then !decide (r.1 ∈ get r.2) else decide (r.1 ∈ get r.2), r.2)).bind fun r => .ok r) = kInO get f s by unfold kInO; cases f s <;> rfl]; exact w) fun x s1 v F1 H1 B A1 ⟨rB, r1⟩ g1 e1 q1 w => ?_)⟩
  subst rB
  exact ⟨x, r1, w F1 H1 A1 g1 e1 q1⟩
theorem tm_ninO (c : Scal T) (hN : X.N[i]? = some x) (hv : Vis X.env.scope x) (at_ : At G i sl get sl G put) (h : EM XR W X p G a (fz T) f) (hm : behindInMarks .NotIn (.Name x pp) = false := by rfl)
    (hd : (x == ("__debug__" : Str)) = false := by decide) (hcd : (x == ("__classdict__" : Str)) = false := by decide) : TM XR W X p G (.Compare a [.NotIn] [.Name x pp] pos) (kNinO get f) := by
  obtain ⟨ta, h1, h2, h3⟩ := inO (β := Unit) (γ := Unit) c op_notIn_seq hN hv at_ h hd hcd
  refine ⟨_, pt_cmpR op_notIn_seq h1 h2 hm, fun s F σ H A Q g k w => h3 s F σ H A _ g k (WPE.bindT (k := fun r => .ok r) (by rw [show (((f s).bind fun r => Res.ok (if true = true then !decide (r.1 ∈ get r.2) else decide (r.1 ∈ get r.2), r.2)).bind fun r => .ok r) = kNinO get f s by unfold kNinO; cases f s <;> rfl]; exact w) fun x s1 v F1 H1 B A1 ⟨rB, r1⟩ g1 e1 q1 w => ?_)⟩
  subst rB
  exact ⟨x, r1, w F1 H1 A1 g1 e1 q1⟩
end
theorem nnLst {T : Ty α} : ∀ F v x, (tLst T).R F v x → v ≠ .non := fun F v x ⟨a, vs, e, _⟩ z => by rw [e] at z; cases z
theorem nnTup {T : Ty α} : ∀ F v x, (tTup T).R F v x → v ≠ .non := fun F v x ⟨a, vs, e, _⟩ z => by rw [e] at z; cases z
theorem nnInt : ∀ F v x, tInt.R F v x → v ≠ .non := fun F v x e z => by rw [show v = .int x from e] at z; cases z
theorem nnStr : ∀ F v x, tStr.R F v x → v ≠ .non := fun F v x e z => by rw [show v = .str x from e] at z; cases z
theorem nnP2 {β : Type} {T : Ty α} {U : Ty β} : ∀ F v x, (tP2 T U).R F v x → v ≠ .non := fun F v x ⟨a, v1, v2, e, _⟩ z => by rw [e] at z; cases z
theorem nnP3 {β γ : Type} {T : Ty α} {U : Ty β} {V' : Ty γ} : ∀ F v x, (tP3 T U V').R F v x → v ≠ .non := fun F v x ⟨a, v1, v2, v3, e, _⟩ z => by rw [e] at z; cases z
theorem nnObj {fr : FR α} {C : Addr} : ∀ F v x, (tIns C fr).R F v x → v ≠ .non := fun F v x ⟨a, dx, fs, e, _⟩ z => by rw [e] at z; cases z
end
/-- a def as it stands behind the top -/
structure DefAt (K : PySem.W.Frag) (mg : Str → Option Value) (x : Str) (st : Stmt) (ps : List Str) (f : Addr) (fd : FuncData) : Prop where
  F : Fun K x x st f fd
  b : Binds K fd ps []
  g : mg x = some (.ref f)
structure IniAt (K : PySem.W.Frag) (mg : Str → Option Value) (c q : Str) (st : Stmt) (ps : List Str) (C f : Addr) (fd : FuncData) : Prop where
  F : Fun K "__init__" q st f fd
  b : Binds K fd ps []
  cl : Cls K C
  mkr : Mk K C f
  g : mg c = some (.ref C)
end TC
namespace TC
open PySem PySem.Spec PyProof.Rows L2
/-! ### what a mirror's answer satisfies -/
section
variable {S S' S2 L L1 L' ρ α β γ ι P : Type}
def Res.Is0 (E : Ex → Prop) (Q : α → Prop) : Res α → Prop
  | .ok a => Q a
  | .er e => E e
  | .bad => False
def Out.Is0 (E : Ex → Prop) (R : ρ → Prop) (B C : L → Prop) (Q : S → Prop) : Out S L ρ → Prop
  | .nx s => Q s
  | .rt r => R r
  | .bk l => B l
  | .ct l => C l
  | .er e => E e
  | .bad => False
variable {E : Ex → Prop} {R : ρ → Prop} {B C : L → Prop} {Q : S' → Prop} {s : S}
theorem Res_Is_mono_0 {Q Q' : α → Prop} {r : Res α} (h : r.Is0 E Q) (k : ∀ a, Q a → Q' a) : r.Is0 E Q' := by
  cases r with
  | ok a => exact k a h
  | er e => exact h
  | bad => exact h
theorem Out_Is_mono_0 {Q Q' : S → Prop} {R R' : ρ → Prop} {B B' C C' : L → Prop} {r : Out S L ρ} (h : r.Is0 E R B C Q) (hR : ∀ a, R a → R' a) (hB : ∀ a, B a → B' a) (hC : ∀ a, C a → C' a) (k : ∀ a, Q a → Q' a) : r.Is0 E R' B' C' Q' := by
  cases r with
  | nx a => exact k a h
  | rt a => exact hR a h
  | bk a => exact hB a h
  | ct a => exact hC a h
  | er e => exact h
  | bad => exact h
theorem Res_is_ok_0 {Q : α → Prop} {a : α} : (Res.ok a).Is0 E Q = Q a := propext Iff.rfl
theorem Res_is_er_0 {Q : α → Prop} {e : Ex} : (Res.er e : Res α).Is0 E Q = E e := propext Iff.rfl
theorem Res_is_bad_0 {Q : α → Prop} : (Res.bad : Res α).Is0 E Q = False := propext Iff.rfl
theorem Res_is_bind_0 {Q : β → Prop} {r : Res α} {k : α → Res β} : (r.bind k).Is0 E Q = r.Is0 E fun a => (k a).Is0 E Q := by cases r <;> rfl
theorem Res_is_out_0 {r : Res α} {k : α → Out S' L ρ} : (r.out k).Is0 E R B C Q = r.Is0 E fun a => (k a).Is0 E R B C Q := by cases r <;> rfl
theorem Out_is_seq_0 {o : Out S L ρ} {k : S → Out S' L ρ} : (o.seq k).Is0 E R B C Q = o.Is0 E R B C fun s => (k s).Is0 E R B C Q := by cases o <;> rfl
theorem Out_is_nx_0 {a : S'} : (Out.nx a : Out S' L ρ).Is0 E R B C Q = Q a := propext Iff.rfl
theorem Out_is_rt_0 {a : ρ} : (Out.rt a : Out S' L ρ).Is0 E R B C Q = R a := propext Iff.rfl
theorem Out_is_bk_0 {a : L} : (Out.bk a : Out S' L ρ).Is0 E R B C Q = B a := propext Iff.rfl
theorem Out_is_ct_0 {a : L} : (Out.ct a : Out S' L ρ).Is0 E R B C Q = C a := propext Iff.rfl
theorem Out_is_ite_0 {c : Prop} [Decidable c] {a b : Out S' L ρ} : (if c then a else b).Is0 E R B C Q = if c then a.Is0 E R B C Q else b.Is0 E R B C Q := by split <;> rfl
theorem Res_is_ite_0 {c : Prop} [Decidable c] {Q : α → Prop} {a b : Res α} : (if c then a else b).Is0 E Q = if c then a.Is0 E Q else b.Is0 E Q := by split <;> rfl
theorem Out_is_res_0 {fall : S → Res ρ} {Q : ρ → Prop} {o : Out S L ρ} : (o.res fall).Is0 E Q = o.Is0 E Q (fun _ => False) (fun _ => False) (fun s => (fall s).Is0 E Q) := by cases o <;> rfl
theorem is_ok_iff_0 {Q : α → Prop} {r : Res α} : r.Is0 (fun _ => False) Q ↔ ∃ a, r = .ok a ∧ Q a := by
  cases r with
  | ok a => exact ⟨fun h => ⟨a, rfl, h⟩, fun ⟨b, e, h⟩ => by cases e; exact h⟩
  | er e => exact ⟨fun h => h.elim, fun ⟨b, e, h⟩ => by cases e⟩
  | bad => exact ⟨fun h => h.elim, fun ⟨b, e, h⟩ => by cases e⟩
theorem of_is_0 {r : Res α} {a : α} (h : r.Is0 (fun _ => False) (· = a)) : r = .ok a := by
  obtain ⟨b, e, rfl⟩ := is_ok_iff_0.mp h
  exact e

/-! ### loops -/
theorem forM_is_0 {body : ι → L → Out L L ρ} {B' C' : L' → Prop} {Q : L → Prop} {xs : List ι} {l : L} (I : Nat → L → Prop) (h0 : I 0 l)
    (hs : ∀ i x l, xs[i]? = some x → I i l → (body x l).Is0 E R Q (I (i + 1)) (I (i + 1))) (hd : ∀ l, I xs.length l → Q l) : (forM body xs l : Out L L' ρ).Is0 E R B' C' Q := by
  have go : ∀ (ys : List ι) (k : Nat) (l : L), (∀ j, ys[j]? = xs[k + j]?) → k + ys.length = xs.length → I k l → (forM body ys l : Out L L' ρ).Is0 E R B' C' Q := by
    intro ys
    induction ys with
    | nil =>
      intro k l _ hk hI
      simp only [List.length_nil, Nat.add_zero] at hk
      exact hd l (hk ▸ hI)
    | cons y ys ih =>
      intro k l he hk hI
      have hx : xs[k]? = some y := by rw [← Nat.add_zero k, ← he 0]; rfl
      have hb := hs k y l hx hI
      rw [forM_cons]
      have nxt : ∀ j, ys[j]? = xs[(k + 1) + j]? := fun j => by rw [show k + 1 + j = k + (j + 1) by omega, ← he (j + 1)]; rfl
      have len : k + 1 + ys.length = xs.length := by rw [List.length_cons] at hk; omega
      cases q : body y l with
      | nx l' => rw [q] at hb; exact ih (k + 1) l' nxt len hb
      | ct l' => rw [q] at hb; exact ih (k + 1) l' nxt len hb
      | bk l' => rw [q] at hb; exact hb
      | rt r => rw [q] at hb; exact hb
      | er e => rw [q] at hb; exact hb
      | bad => rw [q] at hb; exact hb
  exact go xs 0 l (fun j => by rw [Nat.zero_add]) (Nat.zero_add _) h0
theorem whileM_is_0 {c : L → Res (Bool × L)} {body : L → Out L L ρ} {B' C' : L' → Prop} {Q : L → Prop} (I : L → Prop) (μ : L → Nat)
    (hs : ∀ l, I l → (c l).Is0 E fun r => if r.1 = true then (body r.2).Is0 E R Q (fun l' => I l' ∧ μ l' < μ l) (fun l' => I l' ∧ μ l' < μ l) else Q r.2) {l : L} (h0 : I l) : (whileM c body l : Out L L' ρ).Is0 E R B' C' Q := by
  have go : ∀ (n : Nat) (l : L), μ l < n → I l → (whileM c body l : Out L L' ρ).Is0 E R B' C' Q := by
    intro n
    induction n with
    | zero => intro l h _; exact absurd h (Nat.not_lt_zero _)
    | succ n ih =>
      intro l hn hI
      have h := hs l hI
      rw [whileM_step]
      cases q : c l with
      | bad => rw [q] at h; exact h
      | er e => rw [q] at h; exact h
      | ok r =>
        obtain ⟨b, l'⟩ := r
        rw [q] at h
        cases b with
        | false => exact h
        | true =>
          have h : (body l').Is0 E R Q (fun l' => I l' ∧ μ l' < μ l) (fun l' => I l' ∧ μ l' < μ l) := h
          dsimp only
          cases q2 : body l' with
          | nx l2 => rw [q2] at h; simp only [q2]; exact ih l2 (Nat.lt_of_lt_of_le h.2 (Nat.lt_succ_iff.mp hn)) h.1
          | ct l2 => rw [q2] at h; simp only [q2]; exact ih l2 (Nat.lt_of_lt_of_le h.2 (Nat.lt_succ_iff.mp hn)) h.1
          | bk l2 => rw [q2] at h; simp only [q2]; exact h
          | rt r => rw [q2] at h; simp only [q2]; exact h
          | er e => rw [q2] at h; simp only [q2]; exact h
          | bad => rw [q2] at h; exact h.elim
  exact go (μ l + 1) l (Nat.lt_succ_self _) h0
theorem mComp_is_0 {body : ι → S → Res (Option β × S)} {E' : Ex → Prop} {Q : List β × S → Prop} {xs : List ι} (hl : xs.length ≤ sizeLine) (J : Nat → S → List β → Prop) (h0 : J 0 s [])
    (hs : ∀ i x s acc, xs[i]? = some x → J i s acc → (body x s).Is0 (fun _ => False) fun r => J (i + 1) r.2 (acc ++ r.1.toList)) (hd : ∀ s acc, J xs.length s acc → Q (acc, s)) : (mComp body xs s).Is0 E' Q := by
  unfold mComp
  rw [if_pos hl]
  have go : ∀ (ys : List ι) (k : Nat) (s : S) (acc : List β) , (∀ j, ys[j]? = xs[k + j]?) → k + ys.length = xs.length → J k s acc → (compL body ys s).Is0 E' fun r => Q (acc ++ r.1, r.2) := by
    intro ys
    induction ys with
    | nil =>
      intro k s acc _ hk hJ
      simp only [List.length_nil, Nat.add_zero] at hk
      show Q (acc ++ [], s)
      rw [List.append_nil]
      exact hd s acc (hk ▸ hJ)
    | cons y ys ih =>
      intro k s acc he hk hJ
      have hx : xs[k]? = some y := by rw [← Nat.add_zero k, ← he 0]; rfl
      have hb := hs k y s acc hx hJ
      have nxt : ∀ j, ys[j]? = xs[(k + 1) + j]? := fun j => by rw [show k + 1 + j = k + (j + 1) by omega, ← he (j + 1)]; rfl
      have len : k + 1 + ys.length = xs.length := by rw [List.length_cons] at hk; omega
      unfold compL
      cases q : body y s with
      | er e => rw [q] at hb; exact hb.elim
      | bad => rw [q] at hb; exact hb
      | ok r =>
        obtain ⟨o, s1⟩ := r
        rw [q] at hb
        have h2 := ih (k + 1) s1 (acc ++ o.toList) nxt len hb
        dsimp only
        cases q2 : compL body ys s1 with
        | er e =>
          exfalso
          have : ∀ (ys : List ι) (s : S) (e : Ex), compL body ys s ≠ .er e := by
            intro ys s e h
            have := mComp_ne (body := body) (xs := ys) (s := s) (ex := e)
            cases ys with
            | nil => cases h
            | cons y ys =>
              unfold compL at h
              split at h
              · split at h <;> cases h
              · cases h
          exact this _ _ _ q2
        | bad => rw [q2] at h2; exact h2
        | ok r2 =>
          obtain ⟨ys', s2⟩ := r2
          rw [q2] at h2
          have h2 : Q (acc ++ o.toList ++ ys', s2) := h2
          clear hb q
          cases o with
          | none => show Q (acc ++ ys', s2); simpa using h2
          | some y => show Q (acc ++ (y :: ys'), s2); simpa using h2
  have := go xs 0 s [] (fun j => by rw [Nat.zero_add]) (Nat.zero_add _) h0
  simpa using this

/-! ### the words, by what they ask -/
variable {Qr : ρ → Prop} {Qa : α × S → Prop} {Qb : β × S → Prop} {Qg : γ × S → Prop} {QB : Bool × S → Prop} {Ql : List α × S → Prop}
structure Res.Is (E : Ex → Prop) (Q : α → Prop) (r : Res α) : Prop where
  h : Res.Is0 E Q r
structure Out.Is (E : Ex → Prop) (R : ρ → Prop) (B C : L → Prop) (Q : S → Prop) (o : Out S L ρ) : Prop where
  h : Out.Is0 E R B C Q o
theorem Res.is_z : (@Res.Is : {α : Type} → (Ex → Prop) → (α → Prop) → Res α → Prop) = @Res.Is0 := by funext α E Q r; exact propext ⟨fun h => h.h, fun h => ⟨h⟩⟩
theorem Out.is_z : (@Out.Is : {S L ρ : Type} → (Ex → Prop) → (ρ → Prop) → (L → Prop) → (L → Prop) → (S → Prop) → Out S L ρ → Prop) = @Out.Is0 := by funext S L ρ E R B C Q r; exact propext ⟨fun h => h.h, fun h => ⟨h⟩⟩
theorem Res.Is.mono {Q Q' : α → Prop} {r : Res α} (h : r.Is E Q) (k : ∀ a, Q a → Q' a) : r.Is E Q' := by
  have z := @Res_Is_mono_0
  simp only [← Res.is_z, ← Out.is_z] at z
  first | exact z | (apply z <;> assumption)
theorem Out.Is.mono {Q Q' : S → Prop} {R R' : ρ → Prop} {B B' C C' : L → Prop} {r : Out S L ρ} (h : r.Is E R B C Q) (hR : ∀ a, R a → R' a) (hB : ∀ a, B a → B' a) (hC : ∀ a, C a → C' a) (k : ∀ a, Q a → Q' a) : r.Is E R' B' C' Q' := by
  have z := @Out_Is_mono_0
  simp only [← Res.is_z, ← Out.is_z] at z
  first | exact z | (apply z <;> assumption)
theorem Res.is_ok {Q : α → Prop} {a : α} : (Res.ok a).Is E Q = Q a := by
  have z := @Res_is_ok_0
  simp only [← Res.is_z, ← Out.is_z] at z
  first | exact z | (apply z <;> assumption)
theorem Res.is_er {Q : α → Prop} {e : Ex} : (Res.er e : Res α).Is E Q = E e := by
  have z := @Res_is_er_0
  simp only [← Res.is_z, ← Out.is_z] at z
  first | exact z | (apply z <;> assumption)
theorem Res.is_bad {Q : α → Prop} : (Res.bad : Res α).Is E Q = False := by
  have z := @Res_is_bad_0
  simp only [← Res.is_z, ← Out.is_z] at z
  first | exact z | (apply z <;> assumption)
theorem Res.is_bind {Q : β → Prop} {r : Res α} {k : α → Res β} : (r.bind k).Is E Q = r.Is E fun a => (k a).Is E Q := by
  have z := @Res_is_bind_0
  simp only [← Res.is_z, ← Out.is_z] at z
  first | exact z | (apply z <;> assumption)
theorem Res.is_out {r : Res α} {k : α → Out S' L ρ} : (r.out k).Is E R B C Q = r.Is E fun a => (k a).Is E R B C Q := by
  have z := @Res_is_out_0
  simp only [← Res.is_z, ← Out.is_z] at z
  first | exact z | (apply z <;> assumption)
theorem Out.is_seq {o : Out S L ρ} {k : S → Out S' L ρ} : (o.seq k).Is E R B C Q = o.Is E R B C fun s => (k s).Is E R B C Q := by
  have z := @Out_is_seq_0
  simp only [← Res.is_z, ← Out.is_z] at z
  first | exact z | (apply z <;> assumption)
theorem Out.is_nx {a : S'} : (Out.nx a : Out S' L ρ).Is E R B C Q = Q a := by
  have z := @Out_is_nx_0
  simp only [← Res.is_z, ← Out.is_z] at z
  first | exact z | (apply z <;> assumption)
theorem Out.is_rt {a : ρ} : (Out.rt a : Out S' L ρ).Is E R B C Q = R a := by
  have z := @Out_is_rt_0
  simp only [← Res.is_z, ← Out.is_z] at z
  first | exact z | (apply z <;> assumption)
theorem Out.is_bk {a : L} : (Out.bk a : Out S' L ρ).Is E R B C Q = B a := by
  have z := @Out_is_bk_0
  simp only [← Res.is_z, ← Out.is_z] at z
  first | exact z | (apply z <;> assumption)
theorem Out.is_ct {a : L} : (Out.ct a : Out S' L ρ).Is E R B C Q = C a := by
  have z := @Out_is_ct_0
  simp only [← Res.is_z, ← Out.is_z] at z
  first | exact z | (apply z <;> assumption)
theorem Out.is_ite {c : Prop} [Decidable c] {a b : Out S' L ρ} : (if c then a else b).Is E R B C Q = if c then a.Is E R B C Q else b.Is E R B C Q := by
  have z := @Out_is_ite_0
  simp only [← Res.is_z, ← Out.is_z] at z
  first | exact z | (apply z <;> assumption)
theorem Res.is_ite {c : Prop} [Decidable c] {Q : α → Prop} {a b : Res α} : (if c then a else b).Is E Q = if c then a.Is E Q else b.Is E Q := by
  have z := @Res_is_ite_0
  simp only [← Res.is_z, ← Out.is_z] at z
  first | exact z | (apply z <;> assumption)
theorem Out.is_res {fall : S → Res ρ} {Q : ρ → Prop} {o : Out S L ρ} : (o.res fall).Is E Q = o.Is E Q (fun _ => False) (fun _ => False) (fun s => (fall s).Is E Q) := by
  have z := @Out_is_res_0
  simp only [← Res.is_z, ← Out.is_z] at z
  first | exact z | (apply z <;> assumption)
theorem is_ok_iff {Q : α → Prop} {r : Res α} : r.Is (fun _ => False) Q ↔ ∃ a, r = .ok a ∧ Q a := by
  have z := @is_ok_iff_0
  simp only [← Res.is_z, ← Out.is_z] at z
  first | exact z | (apply z <;> assumption)
theorem of_is {r : Res α} {a : α} (h : r.Is (fun _ => False) (· = a)) : r = .ok a := by
  have z := @of_is_0
  simp only [← Res.is_z, ← Out.is_z] at z
  first | exact z | (apply z <;> assumption)
theorem forM_is {body : ι → L → Out L L ρ} {B' C' : L' → Prop} {Q : L → Prop} {xs : List ι} {l : L} (I : Nat → L → Prop) (h0 : I 0 l)
    (hs : ∀ i x l, xs[i]? = some x → I i l → (body x l).Is E R Q (I (i + 1)) (I (i + 1))) (hd : ∀ l, I xs.length l → Q l) : (forM body xs l : Out L L' ρ).Is E R B' C' Q := by
  have z := @forM_is_0
  simp only [← Res.is_z, ← Out.is_z] at z
  first | exact z | (apply z <;> assumption)
theorem whileM_is {c : L → Res (Bool × L)} {body : L → Out L L ρ} {B' C' : L' → Prop} {Q : L → Prop} (I : L → Prop) (μ : L → Nat)
    (hs : ∀ l, I l → (c l).Is E fun r => if r.1 = true then (body r.2).Is E R Q (fun l' => I l' ∧ μ l' < μ l) (fun l' => I l' ∧ μ l' < μ l) else Q r.2) {l : L} (h0 : I l) : (whileM c body l : Out L L' ρ).Is E R B' C' Q := by
  have z := @whileM_is_0
  simp only [← Res.is_z, ← Out.is_z] at z
  first | exact z | (apply z <;> assumption)
theorem mComp_is {body : ι → S → Res (Option β × S)} {E' : Ex → Prop} {Q : List β × S → Prop} {xs : List ι} (hl : xs.length ≤ sizeLine) (J : Nat → S → List β → Prop) (h0 : J 0 s [])
    (hs : ∀ i x s acc, xs[i]? = some x → J i s acc → (body x s).Is (fun _ => False) fun r => J (i + 1) r.2 (acc ++ r.1.toList)) (hd : ∀ s acc, J xs.length s acc → Q (acc, s)) : (mComp body xs s).Is E' Q := by
  have z := @mComp_is_0
  simp only [← Res.is_z, ← Out.is_z] at z
  first | exact z | (apply z <;> assumption)
theorem w_V {get : S → α} : (kV get s).Is E Qa = Qa (get s, s) := by
  first
  | (unfold kV; simp only [Res.is_ok, Res.is_bind, Res.is_out, Out.is_nx, Out.is_rt, Out.is_bk, Out.is_ct, Out.is_seq, Out.is_res, Out.is_ite, Res.is_ite]; done)
  | (unfold kV; simp only [Res.is_ok, Res.is_bind, Res.is_out, Out.is_nx, Out.is_rt, Out.is_seq, Out.is_res, Out.is_ite, Res.is_ite, mAdd])
  | rfl
theorem w_C {c : α} : (kC c s).Is E Qa = Qa (c, s) := by
  first
  | (unfold kC; simp only [Res.is_ok, Res.is_bind, Res.is_out, Out.is_nx, Out.is_rt, Out.is_bk, Out.is_ct, Out.is_seq, Out.is_res, Out.is_ite, Res.is_ite]; done)
  | (unfold kC; simp only [Res.is_ok, Res.is_bind, Res.is_out, Out.is_nx, Out.is_rt, Out.is_seq, Out.is_res, Out.is_ite, Res.is_ite, mAdd])
  | rfl
theorem w_F {h : α → β} {f : S → Res (α × S)} : (kF h f s).Is E Qb = (f s).Is E fun r => Qb (h r.1, r.2) := by
  first
  | (unfold kF; simp only [Res.is_ok, Res.is_bind, Res.is_out, Out.is_nx, Out.is_rt, Out.is_bk, Out.is_ct, Out.is_seq, Out.is_res, Out.is_ite, Res.is_ite]; done)
  | (unfold kF; simp only [Res.is_ok, Res.is_bind, Res.is_out, Out.is_nx, Out.is_rt, Out.is_seq, Out.is_res, Out.is_ite, Res.is_ite, mAdd])
  | rfl
theorem w_U {g : α → Res β} {f : S → Res (α × S)} : (kU g f s).Is E Qb = (f s).Is E fun r => (g r.1).Is E fun z => Qb (z, r.2) := by
  first
  | (unfold kU; simp only [Res.is_ok, Res.is_bind, Res.is_out, Out.is_nx, Out.is_rt, Out.is_bk, Out.is_ct, Out.is_seq, Out.is_res, Out.is_ite, Res.is_ite]; done)
  | (unfold kU; simp only [Res.is_ok, Res.is_bind, Res.is_out, Out.is_nx, Out.is_rt, Out.is_seq, Out.is_res, Out.is_ite, Res.is_ite, mAdd])
  | rfl
theorem w_B {g : α → β → Res γ} {f1 : S → Res (α × S)} {f2 : S → Res (β × S)} : (kB g f1 f2 s).Is E Qg = (f1 s).Is E fun r1 => (f2 r1.2).Is E fun r2 => (g r1.1 r2.1).Is E fun z => Qg (z, r2.2) := by
  first
  | (unfold kB; simp only [Res.is_ok, Res.is_bind, Res.is_out, Out.is_nx, Out.is_rt, Out.is_bk, Out.is_ct, Out.is_seq, Out.is_res, Out.is_ite, Res.is_ite]; done)
  | (unfold kB; simp only [Res.is_ok, Res.is_bind, Res.is_out, Out.is_nx, Out.is_rt, Out.is_seq, Out.is_res, Out.is_ite, Res.is_ite, mAdd])
  | rfl
theorem w_Cmp {g : α → β → Bool} {f1 : S → Res (α × S)} {f2 : S → Res (β × S)} : (kCmp g f1 f2 s).Is E QB = (f1 s).Is E fun r1 => (f2 r1.2).Is E fun r2 => QB (g r1.1 r2.1, r2.2) := by
  first
  | (unfold kCmp; simp only [Res.is_ok, Res.is_bind, Res.is_out, Out.is_nx, Out.is_rt, Out.is_bk, Out.is_ct, Out.is_seq, Out.is_res, Out.is_ite, Res.is_ite]; done)
  | (unfold kCmp; simp only [Res.is_ok, Res.is_bind, Res.is_out, Out.is_nx, Out.is_rt, Out.is_seq, Out.is_res, Out.is_ite, Res.is_ite, mAdd])
  | rfl
theorem w_And {f g : S → Res (Bool × S)} : (kAnd f g s).Is E QB = (f s).Is E fun r => if r.1 = true then (g r.2).Is E QB else QB (false, r.2) := by
  first
  | (unfold kAnd; simp only [Res.is_ok, Res.is_bind, Res.is_out, Out.is_nx, Out.is_rt, Out.is_bk, Out.is_ct, Out.is_seq, Out.is_res, Out.is_ite, Res.is_ite]; done)
  | (unfold kAnd; simp only [Res.is_ok, Res.is_bind, Res.is_out, Out.is_nx, Out.is_rt, Out.is_seq, Out.is_res, Out.is_ite, Res.is_ite, mAdd])
  | rfl
theorem w_Or {f g : S → Res (Bool × S)} : (kOr f g s).Is E QB = (f s).Is E fun r => if r.1 = true then QB (true, r.2) else (g r.2).Is E QB := by
  first
  | (unfold kOr; simp only [Res.is_ok, Res.is_bind, Res.is_out, Out.is_nx, Out.is_rt, Out.is_bk, Out.is_ct, Out.is_seq, Out.is_res, Out.is_ite, Res.is_ite]; done)
  | (unfold kOr; simp only [Res.is_ok, Res.is_bind, Res.is_out, Out.is_nx, Out.is_rt, Out.is_seq, Out.is_res, Out.is_ite, Res.is_ite, mAdd])
  | rfl
theorem w_Ite {c : S → Res (Bool × S)} {a b : S → Res (α × S)} : (kIte c a b s).Is E Qa = (c s).Is E fun r => if r.1 = true then (a r.2).Is E Qa else (b r.2).Is E Qa := by
  first
  | (unfold kIte; simp only [Res.is_ok, Res.is_bind, Res.is_out, Out.is_nx, Out.is_rt, Out.is_bk, Out.is_ct, Out.is_seq, Out.is_res, Out.is_ite, Res.is_ite]; done)
  | (unfold kIte; simp only [Res.is_ok, Res.is_bind, Res.is_out, Out.is_nx, Out.is_rt, Out.is_seq, Out.is_res, Out.is_ite, Res.is_ite, mAdd])
  | rfl
theorem w_Chain {δ : Type} {g : α → β → Bool} {g' : β → δ → Bool} {fa : S → Res (α × S)} {fb : S → Res (β × S)} {fc : S → Res (δ × S)} : (kChain g g' fa fb fc s).Is E QB =
    (fa s).Is E fun r1 => (fb r1.2).Is E fun r2 => if g r1.1 r2.1 = true then (fc r2.2).Is E fun r3 => QB (g' r2.1 r3.1, r3.2) else QB (false, r2.2) := by
  first
  | (unfold kChain; simp only [Res.is_ok, Res.is_bind, Res.is_out, Out.is_nx, Out.is_rt, Out.is_bk, Out.is_ct, Out.is_seq, Out.is_res, Out.is_ite, Res.is_ite]; done)
  | (unfold kChain; simp only [Res.is_ok, Res.is_bind, Res.is_out, Out.is_nx, Out.is_rt, Out.is_seq, Out.is_res, Out.is_ite, Res.is_ite, mAdd])
  | rfl
theorem w_IxO {get : S → List α} {fb : S → Res (Int × S)} : (kIxO get fb s).Is E Qa = (fb s).Is E fun r => (mIx (get r.2) r.1).Is E fun z => Qa (z, r.2) := by
  first
  | (unfold kIxO; simp only [Res.is_ok, Res.is_bind, Res.is_out, Out.is_nx, Out.is_rt, Out.is_bk, Out.is_ct, Out.is_seq, Out.is_res, Out.is_ite, Res.is_ite]; done)
  | (unfold kIxO; simp only [Res.is_ok, Res.is_bind, Res.is_out, Out.is_nx, Out.is_rt, Out.is_seq, Out.is_res, Out.is_ite, Res.is_ite, mAdd])
  | rfl
theorem w_LenO {get : S → List α} {Q : Int × S → Prop} : (kLenO get s).Is E Q = Q (((get s).length : Int), s) := by
  first
  | (unfold kLenO; simp only [Res.is_ok, Res.is_bind, Res.is_out, Out.is_nx, Out.is_rt, Out.is_bk, Out.is_ct, Out.is_seq, Out.is_res, Out.is_ite, Res.is_ite]; done)
  | (unfold kLenO; simp only [Res.is_ok, Res.is_bind, Res.is_out, Out.is_nx, Out.is_rt, Out.is_seq, Out.is_res, Out.is_ite, Res.is_ite, mAdd])
  | rfl
theorem w_Nil {Q : List α × S → Prop} : (kNil s).Is E Q = Q ([], s) := by
  first
  | (unfold kNil; simp only [Res.is_ok, Res.is_bind, Res.is_out, Out.is_nx, Out.is_rt, Out.is_bk, Out.is_ct, Out.is_seq, Out.is_res, Out.is_ite, Res.is_ite]; done)
  | (unfold kNil; simp only [Res.is_ok, Res.is_bind, Res.is_out, Out.is_nx, Out.is_rt, Out.is_seq, Out.is_res, Out.is_ite, Res.is_ite, mAdd])
  | rfl
theorem w_Cons {f : S → Res (α × S)} {g : S → Res (List α × S)} : (kCons f g s).Is E Ql = (f s).Is E fun r1 => (g r1.2).Is E fun r2 => Ql (r1.1 :: r2.1, r2.2) := by
  first
  | (unfold kCons; simp only [Res.is_ok, Res.is_bind, Res.is_out, Out.is_nx, Out.is_rt, Out.is_bk, Out.is_ct, Out.is_seq, Out.is_res, Out.is_ite, Res.is_ite]; done)
  | (unfold kCons; simp only [Res.is_ok, Res.is_bind, Res.is_out, Out.is_nx, Out.is_rt, Out.is_seq, Out.is_res, Out.is_ite, Res.is_ite, mAdd])
  | rfl
theorem w_U0 {Q : Unit × S → Prop} : (kU0 s).Is E Q = Q ((), s) := by
  first
  | (unfold kU0; simp only [Res.is_ok, Res.is_bind, Res.is_out, Out.is_nx, Out.is_rt, Out.is_bk, Out.is_ct, Out.is_seq, Out.is_res, Out.is_ite, Res.is_ite]; done)
  | (unfold kU0; simp only [Res.is_ok, Res.is_bind, Res.is_out, Out.is_nx, Out.is_rt, Out.is_seq, Out.is_res, Out.is_ite, Res.is_ite, mAdd])
  | rfl
theorem w_Pair {f : S → Res (α × S)} {g : S → Res (β × S)} {Q : (α × β) × S → Prop} : (kPair f g s).Is E Q = (f s).Is E fun r1 => (g r1.2).Is E fun r2 => Q ((r1.1, r2.1), r2.2) := by
  first
  | (unfold kPair; simp only [Res.is_ok, Res.is_bind, Res.is_out, Out.is_nx, Out.is_rt, Out.is_bk, Out.is_ct, Out.is_seq, Out.is_res, Out.is_ite, Res.is_ite]; done)
  | (unfold kPair; simp only [Res.is_ok, Res.is_bind, Res.is_out, Out.is_nx, Out.is_rt, Out.is_seq, Out.is_res, Out.is_ite, Res.is_ite, mAdd])
  | rfl
theorem w_CallL {m : List α × P → Res (ρ × List α)} {get : S → List α} {put : S → List α → S} {fa : S → Res (P × S)} {Q : ρ × S → Prop} : (kCallL m get put fa s).Is E Q = (fa s).Is E fun r => (m (get r.2, r.1)).Is E fun z => Q (z.1, put r.2 z.2) := by
  first
  | (unfold kCallL; simp only [Res.is_ok, Res.is_bind, Res.is_out, Out.is_nx, Out.is_rt, Out.is_bk, Out.is_ct, Out.is_seq, Out.is_res, Out.is_ite, Res.is_ite]; done)
  | (unfold kCallL; simp only [Res.is_ok, Res.is_bind, Res.is_out, Out.is_nx, Out.is_rt, Out.is_seq, Out.is_res, Out.is_ite, Res.is_ite, mAdd])
  | rfl
theorem w_Make {m : Unit × P → Res α} {fa : S → Res (P × S)} : (kMake m fa s).Is E Qa = (fa s).Is E fun r => (m ((), r.1)).Is E fun z => Qa (z, r.2) := by
  first
  | (unfold kMake; simp only [Res.is_ok, Res.is_bind, Res.is_out, Out.is_nx, Out.is_rt, Out.is_bk, Out.is_ct, Out.is_seq, Out.is_res, Out.is_ite, Res.is_ite]; done)
  | (unfold kMake; simp only [Res.is_ok, Res.is_bind, Res.is_out, Out.is_nx, Out.is_rt, Out.is_seq, Out.is_res, Out.is_ite, Res.is_ite, mAdd])
  | rfl
theorem w_Lc {fi : S → Res (List ι × S)} {put : S → ι → S} {fe : S → Res (β × S)} {Q : List β × S → Prop} : (kLc fi put fe s).Is E Q = (fi s).Is E fun r => (mComp (fun x s => (fe (put s x)).bind fun q => .ok (some q.1, q.2)) r.1 r.2).Is E Q := by
  first
  | (unfold kLc; simp only [Res.is_ok, Res.is_bind, Res.is_out, Out.is_nx, Out.is_rt, Out.is_bk, Out.is_ct, Out.is_seq, Out.is_res, Out.is_ite, Res.is_ite]; done)
  | (unfold kLc; simp only [Res.is_ok, Res.is_bind, Res.is_out, Out.is_nx, Out.is_rt, Out.is_seq, Out.is_res, Out.is_ite, Res.is_ite, mAdd])
  | rfl
theorem w_LcIf {fi : S → Res (List ι × S)} {put : S → ι → S} {ft : S → Res (Bool × S)} {fe : S → Res (β × S)} {Q : List β × S → Prop} : (kLcIf fi put ft fe s).Is E Q = (fi s).Is E fun r => (mComp (fun x s => (ft (put s x)).bind fun b => if b.1 = true then (fe b.2).bind fun q => .ok (some q.1, q.2) else .ok (none, b.2)) r.1 r.2).Is E Q := by
  first
  | (unfold kLcIf; simp only [Res.is_ok, Res.is_bind, Res.is_out, Out.is_nx, Out.is_rt, Out.is_bk, Out.is_ct, Out.is_seq, Out.is_res, Out.is_ite, Res.is_ite]; done)
  | (unfold kLcIf; simp only [Res.is_ok, Res.is_bind, Res.is_out, Out.is_nx, Out.is_rt, Out.is_seq, Out.is_res, Out.is_ite, Res.is_ite, mAdd])
  | rfl
theorem w_Pop {get : S → List α} {put : S → List α → S} : (kPop get put s).Is E Qa = (mPop (get s)).Is E fun r => Qa (r.1, put s r.2) := by
  first
  | (unfold kPop; simp only [Res.is_ok, Res.is_bind, Res.is_out, Out.is_nx, Out.is_rt, Out.is_bk, Out.is_ct, Out.is_seq, Out.is_res, Out.is_ite, Res.is_ite]; done)
  | (unfold kPop; simp only [Res.is_ok, Res.is_bind, Res.is_out, Out.is_nx, Out.is_rt, Out.is_seq, Out.is_res, Out.is_ite, Res.is_ite, mAdd])
  | rfl
theorem w_DGet {get : S → List (Int × β)} {f : S → Res (Int × S)} : (kDGet get f s).Is E Qb = (f s).Is E fun r => (mDGet (get r.2) r.1).Is E fun z => Qb (z, r.2) := by
  first
  | (unfold kDGet; simp only [Res.is_ok, Res.is_bind, Res.is_out, Out.is_nx, Out.is_rt, Out.is_bk, Out.is_ct, Out.is_seq, Out.is_res, Out.is_ite, Res.is_ite]; done)
  | (unfold kDGet; simp only [Res.is_ok, Res.is_bind, Res.is_out, Out.is_nx, Out.is_rt, Out.is_seq, Out.is_res, Out.is_ite, Res.is_ite, mAdd])
  | rfl
theorem w_DGetN {get : S → List (Int × β)} {f : S → Res (Int × S)} {Q : Option β × S → Prop} : (kDGetN get f s).Is E Q = (f s).Is E fun r => Q (dGet (get r.2) r.1, r.2) := by
  first
  | (unfold kDGetN; simp only [Res.is_ok, Res.is_bind, Res.is_out, Out.is_nx, Out.is_rt, Out.is_bk, Out.is_ct, Out.is_seq, Out.is_res, Out.is_ite, Res.is_ite]; done)
  | (unfold kDGetN; simp only [Res.is_ok, Res.is_bind, Res.is_out, Out.is_nx, Out.is_rt, Out.is_seq, Out.is_res, Out.is_ite, Res.is_ite, mAdd])
  | rfl
theorem w_DIn {get : S → List (Int × β)} {f : S → Res (Int × S)} : (kDIn get f s).Is E QB = (f s).Is E fun r => QB ((dGet (get r.2) r.1).isSome, r.2) := by
  first
  | (unfold kDIn; simp only [Res.is_ok, Res.is_bind, Res.is_out, Out.is_nx, Out.is_rt, Out.is_bk, Out.is_ct, Out.is_seq, Out.is_res, Out.is_ite, Res.is_ite]; done)
  | (unfold kDIn; simp only [Res.is_ok, Res.is_bind, Res.is_out, Out.is_nx, Out.is_rt, Out.is_seq, Out.is_res, Out.is_ite, Res.is_ite, mAdd])
  | rfl
theorem w_DNin {get : S → List (Int × β)} {f : S → Res (Int × S)} : (kDNin get f s).Is E QB = (f s).Is E fun r => QB (!(dGet (get r.2) r.1).isSome, r.2) := by
  first
  | (unfold kDNin; simp only [Res.is_ok, Res.is_bind, Res.is_out, Out.is_nx, Out.is_rt, Out.is_bk, Out.is_ct, Out.is_seq, Out.is_res, Out.is_ite, Res.is_ite]; done)
  | (unfold kDNin; simp only [Res.is_ok, Res.is_bind, Res.is_out, Out.is_nx, Out.is_rt, Out.is_seq, Out.is_res, Out.is_ite, Res.is_ite, mAdd])
  | rfl
theorem w_InO [DecidableEq α] {get : S → List α} {f : S → Res (α × S)} : (kInO get f s).Is E QB = (f s).Is E fun r => QB (decide (r.1 ∈ get r.2), r.2) := by
  first
  | (unfold kInO; simp only [Res.is_ok, Res.is_bind, Res.is_out, Out.is_nx, Out.is_rt, Out.is_bk, Out.is_ct, Out.is_seq, Out.is_res, Out.is_ite, Res.is_ite]; done)
  | (unfold kInO; simp only [Res.is_ok, Res.is_bind, Res.is_out, Out.is_nx, Out.is_rt, Out.is_seq, Out.is_res, Out.is_ite, Res.is_ite, mAdd])
  | rfl
theorem w_NinO [DecidableEq α] {get : S → List α} {f : S → Res (α × S)} : (kNinO get f s).Is E QB = (f s).Is E fun r => QB (!decide (r.1 ∈ get r.2), r.2) := by
  first
  | (unfold kNinO; simp only [Res.is_ok, Res.is_bind, Res.is_out, Out.is_nx, Out.is_rt, Out.is_bk, Out.is_ct, Out.is_seq, Out.is_res, Out.is_ite, Res.is_ite]; done)
  | (unfold kNinO; simp only [Res.is_ok, Res.is_bind, Res.is_out, Out.is_nx, Out.is_rt, Out.is_seq, Out.is_res, Out.is_ite, Res.is_ite, mAdd])
  | rfl
theorem w_D1 {fk : S → Res (Int × S)} {fv : S → Res (β × S)} {Q : List (Int × β) × S → Prop} : (kD1 fk fv s).Is E Q = (fk s).Is E fun r => (fv r.2).Is E fun q => Q ([(r.1, q.1)], q.2) := by
  first
  | (unfold kD1; simp only [Res.is_ok, Res.is_bind, Res.is_out, Out.is_nx, Out.is_rt, Out.is_bk, Out.is_ct, Out.is_seq, Out.is_res, Out.is_ite, Res.is_ite]; done)
  | (unfold kD1; simp only [Res.is_ok, Res.is_bind, Res.is_out, Out.is_nx, Out.is_rt, Out.is_seq, Out.is_res, Out.is_ite, Res.is_ite, mAdd])
  | rfl
theorem w_Range1 {f : S → Res (Int × S)} {Q : List Int × S → Prop} : (kRange1 f s).Is E Q = (f s).Is E fun r => (mRange 0 r.1).Is E fun xs => Q (xs, r.2) := by
  first
  | (unfold kRange1; simp only [Res.is_ok, Res.is_bind, Res.is_out, Out.is_nx, Out.is_rt, Out.is_bk, Out.is_ct, Out.is_seq, Out.is_res, Out.is_ite, Res.is_ite]; done)
  | (unfold kRange1; simp only [Res.is_ok, Res.is_bind, Res.is_out, Out.is_nx, Out.is_rt, Out.is_seq, Out.is_res, Out.is_ite, Res.is_ite, mAdd])
  | rfl
theorem w_Range2 {f f' : S → Res (Int × S)} {Q : List Int × S → Prop} : (kRange2 f f' s).Is E Q = (f s).Is E fun r => (f' r.2).Is E fun r' => (mRange r.1 r'.1).Is E fun xs => Q (xs, r'.2) := by
  first
  | (unfold kRange2; simp only [Res.is_ok, Res.is_bind, Res.is_out, Out.is_nx, Out.is_rt, Out.is_bk, Out.is_ct, Out.is_seq, Out.is_res, Out.is_ite, Res.is_ite]; done)
  | (unfold kRange2; simp only [Res.is_ok, Res.is_bind, Res.is_out, Out.is_nx, Out.is_rt, Out.is_seq, Out.is_res, Out.is_ite, Res.is_ite, mAdd])
  | rfl
theorem w_Set {f : S → Res (α × S)} {put : S → α → S'} : (kSet f put s : Out S' L ρ).Is E R B C Q = (f s).Is E fun r => Q (put r.2 r.1) := by
  first
  | (unfold kSet; simp only [Res.is_ok, Res.is_bind, Res.is_out, Out.is_nx, Out.is_rt, Out.is_bk, Out.is_ct, Out.is_seq, Out.is_res, Out.is_ite, Res.is_ite]; done)
  | (unfold kSet; simp only [Res.is_ok, Res.is_bind, Res.is_out, Out.is_nx, Out.is_rt, Out.is_seq, Out.is_res, Out.is_ite, Res.is_ite, mAdd])
  | rfl
theorem w_Expr {f : S → Res (α × S)} : (kExpr f s : Out S L ρ).Is E R B C QS = (f s).Is E fun r => QS r.2 := by
  first
  | (unfold kExpr; simp only [Res.is_ok, Res.is_bind, Res.is_out, Out.is_nx, Out.is_rt, Out.is_bk, Out.is_ct, Out.is_seq, Out.is_res, Out.is_ite, Res.is_ite]; done)
  | (unfold kExpr; simp only [Res.is_ok, Res.is_bind, Res.is_out, Out.is_nx, Out.is_rt, Out.is_seq, Out.is_res, Out.is_ite, Res.is_ite, mAdd])
  | rfl
theorem w_App {get : S → List α} {put : S → List α → S} {f : S → Res (α × S)} : (kApp get put f s : Out S L ρ).Is E R B C QS = (f s).Is E fun r => (mApp (get r.2) r.1).Is E fun z => QS (put r.2 z) := by
  first
  | (unfold kApp; simp only [Res.is_ok, Res.is_bind, Res.is_out, Out.is_nx, Out.is_rt, Out.is_bk, Out.is_ct, Out.is_seq, Out.is_res, Out.is_ite, Res.is_ite]; done)
  | (unfold kApp; simp only [Res.is_ok, Res.is_bind, Res.is_out, Out.is_nx, Out.is_rt, Out.is_seq, Out.is_res, Out.is_ite, Res.is_ite, mAdd])
  | rfl
theorem w_Rev {get : S → List α} {put : S → List α → S} : (kRev get put s : Out S L ρ).Is E R B C QS = QS (put s (get s).reverse) := by
  first
  | (unfold kRev; simp only [Res.is_ok, Res.is_bind, Res.is_out, Out.is_nx, Out.is_rt, Out.is_bk, Out.is_ct, Out.is_seq, Out.is_res, Out.is_ite, Res.is_ite]; done)
  | (unfold kRev; simp only [Res.is_ok, Res.is_bind, Res.is_out, Out.is_nx, Out.is_rt, Out.is_seq, Out.is_res, Out.is_ite, Res.is_ite, mAdd])
  | rfl
theorem w_Store {get : S → List α} {put : S → List α → S} {f : S → Res (α × S)} {fi : S → Res (Int × S)} : (kStore get put f fi s : Out S L ρ).Is E R B C QS = (f s).Is E fun r => (fi r.2).Is E fun q => (mSet (get q.2) q.1 r.1).Is E fun z => QS (put q.2 z) := by
  first
  | (unfold kStore; simp only [Res.is_ok, Res.is_bind, Res.is_out, Out.is_nx, Out.is_rt, Out.is_bk, Out.is_ct, Out.is_seq, Out.is_res, Out.is_ite, Res.is_ite]; done)
  | (unfold kStore; simp only [Res.is_ok, Res.is_bind, Res.is_out, Out.is_nx, Out.is_rt, Out.is_seq, Out.is_res, Out.is_ite, Res.is_ite, mAdd])
  | rfl
theorem w_AddI {get : S → Int} {put : S → Int → S} {f : S → Res (Int × S)} : (kAddI get put f s : Out S L ρ).Is E R B C QS = (f s).Is E fun r => QS (put r.2 (get s + r.1)) := by
  first
  | (unfold kAddI; simp only [Res.is_ok, Res.is_bind, Res.is_out, Out.is_nx, Out.is_rt, Out.is_bk, Out.is_ct, Out.is_seq, Out.is_res, Out.is_ite, Res.is_ite]; done)
  | (unfold kAddI; simp only [Res.is_ok, Res.is_bind, Res.is_out, Out.is_nx, Out.is_rt, Out.is_seq, Out.is_res, Out.is_ite, Res.is_ite, mAdd])
  | rfl
theorem w_DPut {get : S → List (Int × β)} {put : S → List (Int × β) → S} {f : S → Res (Int × S)} {fv : S → Res (β × S)} : (kDPut get put f fv s : Out S L ρ).Is E R B C QS = (fv s).Is E fun r => (f r.2).Is E fun q => (mDPut (get q.2) q.1 r.1).Is E fun z => QS (put q.2 z) := by
  first
  | (unfold kDPut; simp only [Res.is_ok, Res.is_bind, Res.is_out, Out.is_nx, Out.is_rt, Out.is_bk, Out.is_ct, Out.is_seq, Out.is_res, Out.is_ite, Res.is_ite]; done)
  | (unfold kDPut; simp only [Res.is_ok, Res.is_bind, Res.is_out, Out.is_nx, Out.is_rt, Out.is_seq, Out.is_res, Out.is_ite, Res.is_ite, mAdd])
  | rfl
theorem w_If {c : S → Res (Bool × S)} {a b : S → Out S' L ρ} : (kIf c a b s).Is E R B C Q = (c s).Is E fun r => if r.1 = true then (a r.2).Is E R B C Q else (b r.2).Is E R B C Q := by
  first
  | (unfold kIf; simp only [Res.is_ok, Res.is_bind, Res.is_out, Out.is_nx, Out.is_rt, Out.is_bk, Out.is_ct, Out.is_seq, Out.is_res, Out.is_ite, Res.is_ite]; done)
  | (unfold kIf; simp only [Res.is_ok, Res.is_bind, Res.is_out, Out.is_nx, Out.is_rt, Out.is_seq, Out.is_res, Out.is_ite, Res.is_ite, mAdd])
  | rfl
theorem w_For {fi : S → Res (List ι × S)} {put : S → ι → L1} {fb : L1 → Out S S ρ} : (kFor fi put fb s : Out S L ρ).Is E R B C QS = (fi s).Is E fun r => (forM (fun x l => fb (put l x)) r.1 r.2 : Out S L ρ).Is E R B C QS := by
  first
  | (unfold kFor; simp only [Res.is_ok, Res.is_bind, Res.is_out, Out.is_nx, Out.is_rt, Out.is_bk, Out.is_ct, Out.is_seq, Out.is_res, Out.is_ite, Res.is_ite]; done)
  | (unfold kFor; simp only [Res.is_ok, Res.is_bind, Res.is_out, Out.is_nx, Out.is_rt, Out.is_seq, Out.is_res, Out.is_ite, Res.is_ite, mAdd])
  | rfl
theorem w_While {fc : S → Res (Bool × S)} {fb : S → Out S S ρ} : (kWhile fc fb s : Out S L ρ).Is E R B C QS = (whileM fc fb s : Out S L ρ).Is E R B C QS := by
  first
  | (unfold kWhile; simp only [Res.is_ok, Res.is_bind, Res.is_out, Out.is_nx, Out.is_rt, Out.is_bk, Out.is_ct, Out.is_seq, Out.is_res, Out.is_ite, Res.is_ite]; done)
  | (unfold kWhile; simp only [Res.is_ok, Res.is_bind, Res.is_out, Out.is_nx, Out.is_rt, Out.is_seq, Out.is_res, Out.is_ite, Res.is_ite, mAdd])
  | rfl
theorem w_Nx : (kNx s : Out S L ρ).Is E R B C QS = QS s := by
  first
  | (unfold kNx; simp only [Res.is_ok, Res.is_bind, Res.is_out, Out.is_nx, Out.is_rt, Out.is_bk, Out.is_ct, Out.is_seq, Out.is_res, Out.is_ite, Res.is_ite]; done)
  | (unfold kNx; simp only [Res.is_ok, Res.is_bind, Res.is_out, Out.is_nx, Out.is_rt, Out.is_seq, Out.is_res, Out.is_ite, Res.is_ite, mAdd])
  | rfl
theorem w_Seq {f : S → Out S2 L ρ} {g : S2 → Out S' L ρ} : (kSeq f g s).Is E R B C Q = (f s).Is E R B C fun s' => (g s').Is E R B C Q := by
  first
  | (unfold kSeq; simp only [Res.is_ok, Res.is_bind, Res.is_out, Out.is_nx, Out.is_rt, Out.is_bk, Out.is_ct, Out.is_seq, Out.is_res, Out.is_ite, Res.is_ite]; done)
  | (unfold kSeq; simp only [Res.is_ok, Res.is_bind, Res.is_out, Out.is_nx, Out.is_rt, Out.is_seq, Out.is_res, Out.is_ite, Res.is_ite, mAdd])
  | rfl
theorem w_Ret {f : S → Res (ρ × S)} : (kRet f s : Out S' L ρ).Is E R B C Q = (f s).Is E fun r => R r.1 := by
  first
  | (unfold kRet; simp only [Res.is_ok, Res.is_bind, Res.is_out, Out.is_nx, Out.is_rt, Out.is_bk, Out.is_ct, Out.is_seq, Out.is_res, Out.is_ite, Res.is_ite]; done)
  | (unfold kRet; simp only [Res.is_ok, Res.is_bind, Res.is_out, Out.is_nx, Out.is_rt, Out.is_seq, Out.is_res, Out.is_ite, Res.is_ite, mAdd])
  | rfl
theorem w_RetL {get : S → β} {f : S → Res (α × S)} {R : α × β → Prop} : (kRetL get f s : Out S' L (α × β)).Is E R B C Q = (f s).Is E fun r => R (r.1, get r.2) := by
  first
  | (unfold kRetL; simp only [Res.is_ok, Res.is_bind, Res.is_out, Out.is_nx, Out.is_rt, Out.is_bk, Out.is_ct, Out.is_seq, Out.is_res, Out.is_ite, Res.is_ite]; done)
  | (unfold kRetL; simp only [Res.is_ok, Res.is_bind, Res.is_out, Out.is_nx, Out.is_rt, Out.is_seq, Out.is_res, Out.is_ite, Res.is_ite, mAdd])
  | rfl
theorem w_FldNew {get : S → α} {put : S → α × β → S'} {f : S → Res (β × S)} : (kFldNew get put f s : Out S' L ρ).Is E R B C Q = (f s).Is E fun r => Q (put r.2 (get r.2, r.1)) := by
  first
  | (unfold kFldNew; simp only [Res.is_ok, Res.is_bind, Res.is_out, Out.is_nx, Out.is_rt, Out.is_bk, Out.is_ct, Out.is_seq, Out.is_res, Out.is_ite, Res.is_ite]; done)
  | (unfold kFldNew; simp only [Res.is_ok, Res.is_bind, Res.is_out, Out.is_nx, Out.is_rt, Out.is_seq, Out.is_res, Out.is_ite, Res.is_ite, mAdd])
  | rfl
theorem w_Bk {s : L} : (kBk s : Out S' L ρ).Is E R B C Q = B s := by
  first
  | (unfold kBk; simp only [Res.is_ok, Res.is_bind, Res.is_out, Out.is_nx, Out.is_rt, Out.is_bk, Out.is_ct, Out.is_seq, Out.is_res, Out.is_ite, Res.is_ite]; done)
  | (unfold kBk; simp only [Res.is_ok, Res.is_bind, Res.is_out, Out.is_nx, Out.is_rt, Out.is_seq, Out.is_res, Out.is_ite, Res.is_ite, mAdd])
  | rfl
theorem w_Ct {s : L} : (kCt s : Out S' L ρ).Is E R B C Q = C s := by
  first
  | (unfold kCt; simp only [Res.is_ok, Res.is_bind, Res.is_out, Out.is_nx, Out.is_rt, Out.is_bk, Out.is_ct, Out.is_seq, Out.is_res, Out.is_ite, Res.is_ite]; done)
  | (unfold kCt; simp only [Res.is_ok, Res.is_bind, Res.is_out, Out.is_nx, Out.is_rt, Out.is_seq, Out.is_res, Out.is_ite, Res.is_ite, mAdd])
  | rfl
theorem w_Run {fb : S → Out S' L ρ} {init : P → S} {fall : S' → Res ρ} {y : P} : (kRun fb init fall y).Is E Qr = (fb (init y)).Is E Qr (fun _ => False) (fun _ => False) (fun s => (fall s).Is E Qr) := by
  first
  | (unfold kRun; simp only [Res.is_ok, Res.is_bind, Res.is_out, Out.is_nx, Out.is_rt, Out.is_bk, Out.is_ct, Out.is_seq, Out.is_res, Out.is_ite, Res.is_ite]; done)
  | (unfold kRun; simp only [Res.is_ok, Res.is_bind, Res.is_out, Out.is_nx, Out.is_rt, Out.is_seq, Out.is_res, Out.is_ite, Res.is_ite, mAdd])
  | rfl
theorem isk {α : Type} {E : Ex → Prop} {Q : α → Prop} {a : α} (k : Q a) : (Res.ok a).Is E Q := by rw [Res.is_ok]; exact k
theorem is_mAdd {x y : Int} {Q : Int → Prop} : (mAdd x y).Is E Q = Q (x + y) := by unfold mAdd; exact Res.is_ok
theorem is_mSub {x y : Int} {Q : Int → Prop} : (mSub x y).Is E Q = Q (x - y) := by unfold mSub; exact Res.is_ok
theorem is_mMul {x y : Int} {Q : Int → Prop} (h : CMul x y) (k : Q (x * y)) : (mMul x y).Is E Q := by unfold mMul; rw [if_pos h]; exact isk k
theorem is_mMod {x y : Int} {Q : Int → Prop} (h : 0 < y) (k : Q (x % y)) : (mMod x y).Is E Q := by unfold mMod; rw [if_pos h]; exact isk k
theorem is_mDiv {x y : Int} {Q : Int → Prop} (h : CDiv x y) (k : Q (x / y)) : (mDiv x y).Is E Q := by unfold mDiv; rw [if_pos h]; exact isk k
theorem is_mRange {lo hi : Int} {Q : List Int → Prop} (h : -1000000 ≤ lo ∧ lo ≤ 1000000 ∧ -1000000 ≤ hi ∧ hi ≤ 1000000) (k : Q (irange lo hi)) : (mRange lo hi).Is E Q := by
  unfold mRange
  rw [if_pos (by omega)]
  exact isk k
theorem is_mIx {xs : List α} {i : Int} {Q : α → Prop} (x : α) (h0 : 0 ≤ i) (h : xs[i.toNat]? = some x) (k : Q x) : (mIx xs i).Is E Q := by
  unfold mIx
  have e : atI xs i = some x := by
    have := atI_nat (xs := xs) (j := i.toNat) h
    rwa [show ((i.toNat : Nat) : Int) = i by omega] at this
  rw [e]
  exact isk k
theorem is_mApp {xs : List α} {x : α} {Q : List α → Prop} (h : xs.length < 1000000) (k : Q (xs ++ [x])) : (mApp xs x).Is E Q := by
  unfold mApp; rw [if_pos (Nat.lt_of_lt_of_le h (by show 1000000 ≤ 2 ^ 24; decide))]; exact isk k
theorem is_mCat {xs ys : List α} {Q : List α → Prop} (h : xs.length + ys.length ≤ 1000000) (k : Q (xs ++ ys)) : (mCat xs ys).Is E Q := by
  unfold mCat; rw [if_pos (Nat.le_trans h (by show 1000000 ≤ 2 ^ 24; decide))]; exact isk k
theorem is_mSet {xs : List α} {i : Int} {x : α} {Q : List α → Prop} (h0 : 0 ≤ i) (h : i < (xs.length : Int)) (k : Q (xs.set i.toNat x)) : (mSet xs i x).Is E Q := by
  unfold mSet ixN
  rw [if_pos h0, if_pos h]
  exact isk k
theorem is_mPop {xs : List α} {Q : α × List α → Prop} (x : α) (h : xs.getLast? = some x) (k : Q (x, xs.dropLast)) : (mPop xs).Is E Q := by
  unfold mPop; rw [h]; exact isk k
theorem is_mDPut [DecidableEq α] {d : List (α × β)} {x : α} {y : β} {Q : List (α × β) → Prop} (h : d.length < 1000000) (k : Q (dPut d x y)) : (mDPut d x y).Is E Q := by
  unfold mDPut; rw [if_pos (Nat.lt_of_lt_of_le h (by show 1000000 ≤ 2 ^ 24; decide))]; exact isk k
theorem is_mDGet [DecidableEq α] {d : List (α × β)} {x : α} {Q : β → Prop} (y : β) (h : dGet d x = some y) (k : Q y) : (mDGet d x).Is E Q := by
  unfold mDGet; rw [h]; exact isk k
theorem irange_get {lo hi : Int} {i : Nat} {x : Int} (h : (irange lo hi)[i]? = some x) : x = lo + i ∧ i < (hi - lo).toNat := by
  unfold irange at h
  rw [List.getElem?_map] at h
  cases q : (List.range (hi - lo).toNat)[i]? with
  | none => rw [q] at h; cases h
  | some j =>
    rw [q] at h
    obtain ⟨h1, h2⟩ := List.getElem?_eq_some_iff.mp q
    rw [List.getElem_range] at h2
    rw [List.length_range] at h1
    subst h2
    cases h
    exact ⟨rfl, h1⟩
theorem big_line : (1000000 : Nat) ≤ sizeLine := by show 1000000 ≤ 2 ^ 24; decide
end
end TC
namespace TC
open PySem PySem.Spec PyProof.Rows L2
section
variable {XR : XRel} {W : WX} {X : Cx} {S S' S2 L ρ : Type} {G : Ctx S} {G' : Ctx S'} {G2 : Ctx S2} {α β γ : Type} {e a b c : Expr} {es : List Expr} {pos : Pos} {p p1 p2 p3 : Bool}
/-! ### repetition -/
theorem em_repL {T : Ty α} {fa : S → Res (List α × S)} {fb : S → Res (Int × S)} (ha : EM XR W X p1 G a (fz (tLst T)) fa) (hb : EM XR W X p2 G b (fz tInt) fb) :
    EM XR W X (p1 && p2) G (.BinOp a .Mult b pos) (oL T) (fun s => (fa s).bind fun r1 => (fb r1.2).bind fun r2 => (mRep r1.1 r2.1).bind fun z => .ok (z, r2.2)) :=
  em_op2 (T1 := tLst T) (T2 := tInt) (g := mRep) (fun _ _ => pe_op op_rep) (fun F H v u x y Q ⟨a, vs, ev, q, r⟩ ru s h nb _ => by
    unfold mRep at h nb
    by_cases hz : -(2 ^ 63) ≤ y ∧ y < 2 ^ 63 ∧ x.length * y.toNat ≤ sizeLine
    · rw [if_pos hz] at h
      exact ⟨a, y, vs, ev, ru, s _ _ q, hz.1, hz.2.1, by rw [r.length]; exact hz.2.2, fun p n => lay_list (r.rep _) s n (h _ rfl)⟩
    · rw [if_neg hz] at nb; exact absurd rfl nb) (fun x y ex => by unfold mRep; exact ifne) ha hb

/-! ### sum, max, min -/
theorem ints_map {F : Hp} : ∀ {vs : List V} {xs : List Int}, All2 (tInt.R F) vs xs → vs = xs.map V.int
  | [], [], _ => rfl
  | _ :: _, _ :: _, h => by rw [List.map_cons, ← ints_map h.2]; exact congrArg (· :: _) h.1
  | [], _ :: _, h => h.elim
  | _ :: _, [], h => h.elim
def mMax (xs : List Int) : Res Int := match xs with
  | [] => .bad
  | x :: xs => .ok (xs.foldl max x)
def mMin (xs : List Int) : Res Int := match xs with
  | [] => .bad
  | x :: xs => .ok (xs.foldl min x)
theorem mMax_ne {xs : List Int} {ex : Ex} : mMax xs ≠ .er ex := by unfold mMax; split <;> (intro h; cases h)
theorem mMin_ne {xs : List Int} {ex : Ex} : mMin xs ≠ .er ex := by unfold mMin; split <;> (intro h; cases h)
theorem max_is : ∀ (r : List Int) (a : Int), (r.foldl max a = a ∨ r.foldl max a ∈ r) ∧ a ≤ r.foldl max a ∧ ∀ x ∈ r, x ≤ r.foldl max a
  | [], a => ⟨.inl rfl, Int.le_refl _, fun _ h => nomatch h⟩
  | b :: r, a => by
    obtain ⟨h1, h2, h3⟩ := max_is r (max a b)
    rw [List.foldl_cons]
    refine ⟨?_, by omega, fun x hx => ?_⟩
    · rcases h1 with q | q
      · rw [q]
        rcases (by omega : max a b = a ∨ max a b = b) with e | e
        · exact .inl e
        · exact .inr (by rw [e]; exact List.mem_cons_self)
      · exact .inr (List.mem_cons_of_mem _ q)
    · rcases List.mem_cons.mp hx with e | q
      · omega
      · exact h3 x q
theorem min_is : ∀ (r : List Int) (a : Int), (r.foldl min a = a ∨ r.foldl min a ∈ r) ∧ r.foldl min a ≤ a ∧ ∀ x ∈ r, r.foldl min a ≤ x
  | [], a => ⟨.inl rfl, Int.le_refl _, fun _ h => nomatch h⟩
  | b :: r, a => by
    obtain ⟨h1, h2, h3⟩ := min_is r (min a b)
    rw [List.foldl_cons]
    refine ⟨?_, by omega, fun x hx => ?_⟩
    · rcases h1 with q | q
      · rw [q]
        rcases (by omega : min a b = a ∨ min a b = b) with e | e
        · exact .inl e
        · exact .inr (by rw [e]; exact List.mem_cons_self)
      · exact .inr (List.mem_cons_of_mem _ q)
    · rcases List.mem_cons.mp hx with e | q
      · omega
      · exact h3 x q
theorem max_eq {x m : Int} {xs : List Int} (hm : m ∈ x :: xs) (h : ∀ y ∈ x :: xs, y ≤ m) : m = xs.foldl max x := by
  obtain ⟨h1, h2, h3⟩ := max_is xs x
  have k1 : m ≤ xs.foldl max x := by
    rcases List.mem_cons.mp hm with e | q
    · omega
    · exact h3 m q
  have k2 : xs.foldl max x ≤ m := by
    rcases h1 with q | q
    · rw [q]; exact h x List.mem_cons_self
    · exact h _ (List.mem_cons_of_mem _ q)
  omega
theorem min_eq {x m : Int} {xs : List Int} (hm : m ∈ x :: xs) (h : ∀ y ∈ x :: xs, m ≤ y) : m = xs.foldl min x := by
  obtain ⟨h1, h2, h3⟩ := min_is xs x
  have k1 : xs.foldl min x ≤ m := by
    rcases List.mem_cons.mp hm with e | q
    · omega
    · exact h3 m q
  have k2 : m ≤ xs.foldl min x := by
    rcases h1 with q | q
    · rw [q]; exact h x List.mem_cons_self
    · exact h _ (List.mem_cons_of_mem _ q)
  omega
section
variable {fa : S → Res (List Int × S)} {pp : Pos}
theorem em_sumL (hc : X.calm = true) (hg : L2.Gl X "sum") (hm : X.mg "sum" = none) (ha : EM XR W X p G a (fz (tLst tInt)) fa) (hs : starEach [a] X.env = [(false, eval a X.env)] := by rfl) : EM XR W X p G (.Call (.Name "sum" pp) [a] [] pos) (fz tInt) (fun s => (fa s).bind fun r1 => (Res.ok r1.1.sum).bind fun z => .ok (z, r1.2)) :=
  em_callB (T := tLst tInt) (g := fun x => .ok x.sum) (cr_sum hc) hg hm (by decide +kernel) (fun F H v x Q ⟨a, vs, ev, q, r⟩ s h _ _ => ⟨a, x, by rw [ev], by rw [← ints_map r]; exact SqL.of (s _ _ q), h _ rfl _ F H [] ⟨rfl, rfl⟩ (Ext.refl (holds_nil s))⟩) (fun _ _ => okne) ha hs
theorem em_maxL (hc : X.calm = true) (hg : L2.Gl X "max") (hm : X.mg "max" = none) (ha : EM XR W X p G a (fz (tLst tInt)) fa) (hs : starEach [a] X.env = [(false, eval a X.env)] := by rfl) : EM XR W X p G (.Call (.Name "max" pp) [a] [] pos) (fz tInt) (fun s => (fa s).bind fun r1 => (mMax r1.1).bind fun z => .ok (z, r1.2)) :=
  em_callB (T := tLst tInt) (g := mMax) (cr_max hc) hg hm (by decide +kernel) (fun F H v x Q ⟨a, vs, ev, q, r⟩ s h nb _ => by
    cases x with
    | nil => exact absurd rfl nb
    | cons y ys =>
      refine ⟨a, y :: ys, by rw [ev], by rw [← ints_map r]; exact SqL.of (s _ _ q), Nat.succ_pos _, fun m hm hle => ?_⟩
      rw [max_eq hm hle]
      exact h _ rfl _ F H [] ⟨rfl, rfl⟩ (Ext.refl (holds_nil s))) (fun _ _ => mMax_ne) ha hs
theorem em_minL (hc : X.calm = true) (hg : L2.Gl X "min") (hm : X.mg "min" = none) (ha : EM XR W X p G a (fz (tLst tInt)) fa) (hs : starEach [a] X.env = [(false, eval a X.env)] := by rfl) : EM XR W X p G (.Call (.Name "min" pp) [a] [] pos) (fz tInt) (fun s => (fa s).bind fun r1 => (mMin r1.1).bind fun z => .ok (z, r1.2)) :=
  em_callB (T := tLst tInt) (g := mMin) (cr_min hc) hg hm (by decide +kernel) (fun F H v x Q ⟨a, vs, ev, q, r⟩ s h nb _ => by
    cases x with
    | nil => exact absurd rfl nb
    | cons y ys =>
      refine ⟨a, y :: ys, by rw [ev], by rw [← ints_map r]; exact SqL.of (s _ _ q), Nat.succ_pos _, fun m hm hle => ?_⟩
      rw [min_eq hm hle]
      exact h _ rfl _ F H [] ⟨rfl, rfl⟩ (Ext.refl (holds_nil s))) (fun _ _ => mMin_ne) ha hs
end
/-- max(t), a tuple of ints -/
def rMaxT (K : PySem.W.Frag) : List V → Hp → VK → Prop := fun vs H Q => ∃ (a : Addr) (n : Int) (ns : List Int), vs = [V.ref a] ∧ SqT K H a ((n :: ns).map V.int) ∧ Q (.int (ns.foldl max n)) H
theorem reads_ints {h : Heap} : ∀ {us : List Value} {ns : List Int}, Vals (ns.map V.int) us → PySem.ReadsAll h us (ns.map PyData.int) [] := by
  intro us ns r
  induction ns generalizing us with
  | nil => cases r; exact .nil
  | cons n ns ih =>
    rw [List.map_cons] at r
    cases r with
    | cons r1 r2 =>
      obtain ⟨t, rfl⟩ := r1
      exact PySem.ReadsAll.cons (as := []) (.int _ _) (ih r2)
theorem cr_maxT (hc : X.calm = true) (hu : X.A.units + 64 < cLine) : CallR X (.builtin "max") (rMaxT X.K) := by
  intro pins s σ H vs us Q I r h
  obtain ⟨a, n, ns, rfl, hs, q⟩ := h
  obtain ⟨its, rv, hl, _⟩ := I.tuple hs
  rw [Vals.ref1 r]
  refine PySem.W.max_tuple_datum (α := Int) (x := n) (xs := ns) (I.ok.hd hc) hl ⟨[], ?_⟩ ?_ ?_
  · exact reads_ints rv
  · show X.A.units + 1 + 0 < cLine
    omega
  · intro i v h' tk _ hv hk
    obtain ⟨as, hr⟩ := hv
    have e : PySem.W.maxOf n ns = ns.foldl max n := by
      unfold PySem.W.maxOf
      congr 1
      funext a y
      show (if decide (a < y) = true then y else a) = max a y
      rcases Int.lt_or_le a y with q | q
      · rw [if_pos (decide_eq_true q)]; omega
      · rw [if_neg (by simpa using q)]; omega
    rw [e] at hr
    have hr : PySem.Reads h' v (.int (ns.foldl max n)) as := hr
    cases hr
    exact ⟨.int _, H, I.kept hk, ⟨_, rfl⟩, q⟩
theorem em_maxT {fa : S → Res (List Int × S)} {pp : Pos} (hc : X.calm = true) (hu : X.A.units + 64 < cLine) (hg : L2.Gl X "max") (hm : X.mg "max" = none) (ha : EM XR W X p G a (fz (tTup tInt)) fa) (hs : starEach [a] X.env = [(false, eval a X.env)] := by rfl) : EM XR W X p G (.Call (.Name "max" pp) [a] [] pos) (fz tInt) (fun s => (fa s).bind fun r1 => (mMax r1.1).bind fun z => .ok (z, r1.2)) :=
  em_callB (T := tTup tInt) (g := mMax) (cr_maxT hc hu) hg hm (by decide +kernel) (fun F H v x Q ⟨a, vs, ev, q, r⟩ s h nb _ => by
    cases x with
    | nil => exact absurd rfl nb
    | cons y ys =>
      exact ⟨a, y, ys, by rw [ev], by rw [← ints_map r]; exact SqT.of (s _ _ q), h _ rfl _ F H [] ⟨rfl, rfl⟩ (Ext.refl (holds_nil s))⟩) (fun _ _ => mMax_ne) ha hs
/-- max(a, b), min(a, b) -/
theorem em_callB2 {id : String} {x : Str} {pp : Pos} {r : List V → Hp → VK → Prop} {T1 : Ty α} {T2 : Ty β} {g : α → β → Res γ} {R : Rl γ} {fa : S → Res (α × S)} {fb : S → Res (β × S)} (hc : CallR X (.builtin id) r) (hg : L2.Gl X x) (hm : X.mg x = none) (hv : bootBuiltins x = some (.builtin id))
    (ho : Op2 (fun v u H Q => r [v, u] H Q) T1 T2 g R) (ne : ∀ x y ex, g x y ≠ .er ex) (ha : EM XR W X p1 G a (fz T1) fa) (hb : EM XR W X p2 G b (fz T2) fb) (hs : starEach [a, b] X.env = (false, eval a X.env) :: starEach [b] X.env := by rfl) (hs2 : starEach [b] X.env = [(false, eval b X.env)] := by rfl) (hpl : (backTo pos (starEach [b] X.env)).any (·.1) = false := by rfl) (hn : x ≠ "__name__" := by decide) (hdb : (x == ("__debug__" : Str)) = false := by decide) :
    EM XR W X (p1 && p2) G (.Call (.Name x pp) [a, b] [] pos) R (fun s => (fa s).bind fun r1 => (fb r1.2).bind fun r2 => (g r1.1 r2.1).bind fun z => .ok (z, r2.2)) :=
  em_op2 (r := fun v u H Q => r [v, u] H Q) (fun _ _ u v => pe_callB hc hg hm hv (pa_cons u (pa_cons v pa_nil hs2) hs) hn hdb hs hpl) ho ne ha hb
section
variable {fa : S → Res (Int × S)} {fb : S → Res (Int × S)} {pp : Pos}
theorem em_max2 (hc : X.calm = true) (hg : L2.Gl X "max") (hm : X.mg "max" = none) (ha : EM XR W X p1 G a (fz tInt) fa) (hb : EM XR W X p2 G b (fz tInt) fb) (hs : starEach [a, b] X.env = (false, eval a X.env) :: starEach [b] X.env := by rfl) (hs2 : starEach [b] X.env = [(false, eval b X.env)] := by rfl) (hpl : (backTo pos (starEach [b] X.env)).any (·.1) = false := by rfl) :
    EM XR W X (p1 && p2) G (.Call (.Name "max" pp) [a, b] [] pos) (fz tInt) (fun s => (fa s).bind fun r1 => (fb r1.2).bind fun r2 => (Res.ok (max r1.1 r2.1)).bind fun z => .ok (z, r2.2)) :=
  em_callB2 (g := fun x y => .ok (max x y)) (call_max2 hc) hg hm (by decide +kernel) (fun F H v u x y Q rv ru s h _ _ => ⟨x, y, by rw [show v = .int x from rv, show u = .int y from ru], by
    have e : (if y > x then y else x) = max x y := by split <;> omega
    rw [e]; exact h _ rfl _ F H [] ⟨rfl, rfl⟩ (Ext.refl (holds_nil s))⟩) (fun _ _ _ => okne) ha hb hs hs2 hpl
theorem em_min2 (hc : X.calm = true) (hg : L2.Gl X "min") (hm : X.mg "min" = none) (ha : EM XR W X p1 G a (fz tInt) fa) (hb : EM XR W X p2 G b (fz tInt) fb) (hs : starEach [a, b] X.env = (false, eval a X.env) :: starEach [b] X.env := by rfl) (hs2 : starEach [b] X.env = [(false, eval b X.env)] := by rfl) (hpl : (backTo pos (starEach [b] X.env)).any (·.1) = false := by rfl) :
    EM XR W X (p1 && p2) G (.Call (.Name "min" pp) [a, b] [] pos) (fz tInt) (fun s => (fa s).bind fun r1 => (fb r1.2).bind fun r2 => (Res.ok (min r1.1 r2.1)).bind fun z => .ok (z, r2.2)) :=
  em_callB2 (g := fun x y => .ok (min x y)) (call_min2 hc) hg hm (by decide +kernel) (fun F H v u x y Q rv ru s h _ _ => ⟨x, y, by rw [show v = .int x from rv, show u = .int y from ru], by
    have e : (if y < x then y else x) = min x y := by split <;> omega
    rw [e]; exact h _ rfl _ F H [] ⟨rfl, rfl⟩ (Ext.refl (holds_nil s))⟩) (fun _ _ _ => okne) ha hb hs hs2 hpl
end
/-! ### xs.index(y) of a list that is frozen -/
def mIdx [DecidableEq α] (xs : List α) (y : α) : Res Int := if y ∈ xs then .ok (xs.idxOf y : Nat) else .bad
theorem mIdx_ne [DecidableEq α] {xs : List α} {y : α} {ex : Ex} : mIdx xs y ≠ .er ex := by unfold mIdx; exact ifne
theorem idx_at [DecidableEq α] {T : Ty α} (c : Scal T) {F : Hp} {y : α} : ∀ {vs : List V} {xs : List α}, All2 (T.R F) vs xs → y ∈ xs → ∃ z, vs[xs.idxOf y]? = some z ∧ eqV z (c.of y) = true ∧ ∀ m z', m < xs.idxOf y → vs[m]? = some z' → eqV z' (c.of y) = false
  | [], [], _, h => by cases h
  | v :: vs, x :: xs, h, hm => by
    have ev := c.is F v x h.1
    by_cases e : x = y
    · subst e
      rw [List.idxOf_cons_self]
      exact ⟨v, rfl, by rw [ev, c.eqv]; simp, fun m z' hm _ => by omega⟩
    · have hm' : y ∈ xs := (List.mem_cons.mp hm).resolve_left fun z => e z.symm
      obtain ⟨z, h1, h2, h3⟩ := idx_at c h.2 hm'
      have e0 : (x :: xs).idxOf y = xs.idxOf y + 1 := by rw [List.idxOf_cons, show (x == y) = false by simp [e]]; rfl
      rw [e0]
      refine ⟨z, h1, h2, fun m z' hm hz => ?_⟩
      cases m with
      | zero => cases hz; rw [ev, c.eqv]; simp [e]
      | succ m => exact h3 m z' (by omega) hz
  | [], _ :: _, h, _ => h.elim
  | _ :: _, [], h, _ => h.elim
theorem em_idxL [DecidableEq α] {T : Ty α} (c : Scal T) {fa : S → Res (List α × S)} {fb : S → Res (α × S)} {ap : Pos} (ha : EM XR W X p1 G a (fz (tLst T)) fa) (hb : EM XR W X p2 G b (fz T) fb)
    (mk : ∀ ta tb, PE X a ta → PE X b tb → PE X (.Call (.Attribute a "index" ap) [b] [] pos) (tBM X.K "list" (rIndex X.K) ta (tCons tb tNil))) :
    EM XR W X (p1 && p2) G (.Call (.Attribute a "index" ap) [b] [] pos) (fz tInt) (fun s => (fa s).bind fun r1 => (fb r1.2).bind fun r2 => (mIdx r1.1 r2.1).bind fun z => .ok (z, r2.2)) := by
  obtain ⟨ta, hta, ha⟩ := ha
  obtain ⟨tb, htb, hb⟩ := hb
  refine ⟨_, mk _ _ hta htb, fun s F σ H A Q g k w => ha s F σ H A _ g k (WPE.bind w fun x s1 v F1 H1 B A1 ⟨rB, r1⟩ g1 e1 q1 w => ?_)⟩
  subst rB
  obtain ⟨l, vs, rfl, hl, r⟩ := r1
  refine ⟨.inl ⟨rfl, vs, SqL.of (e1.holds.fz _ _ hl)⟩, hb s1 F1 σ H1 A1 _ g1 e1.holds ?_⟩
  cases q : fb s1 with
  | bad => rw [q] at w; exact w
  | er ex => rw [q] at w; exact fun cls oe F' H' A' h1 h2 => w cls oe F' H' A' h1 (e1.trans h2)
  | ok ys =>
    obtain ⟨y, s2⟩ := ys
    rw [q] at w
    rintro u F2 H2 B A2 ⟨rB, r2⟩ g2 e2 q2
    subst rB
    dsimp only [Res.bind_ok] at w
    unfold mIdx at w
    by_cases hm : y ∈ x
    · rw [if_pos hm] at w
      obtain ⟨z, h1, h2, h3⟩ := idx_at c r hm
      rw [c.is F2 u y r2]
      refine ⟨l, vs, c.of y, x.idxOf y, z, rfl, rfl, SqL.of (e2.holds.fz _ _ (e2.fz _ _ hl)), c.flat y, (inV_of c (x := y) r).2, h1, h2, h3, ?_⟩
      exact w _ F2 H2 [] A2 ⟨rfl, rfl⟩ g2 (e1.trans e2) fun hp => by
        simp only [Bool.and_eq_true] at hp
        exact ⟨(q2 hp.2).1.trans (q1 hp.1).1, (q2 hp.2).2.trans (q1 hp.1).2⟩
    · rw [if_neg hm] at w; exact w.elim
end

/-! ### lists of owned things -/
section
variable {α β : Type}
def AllO (R : Rl β) (F : Hp) : List V → List β → Ow → Prop
  | [], [], A => A = []
  | v :: vs, x :: xs, A => ∃ B C, A = B ++ C ∧ R.P F v x B ∧ AllO R F vs xs C
  | _, _, _ => False
variable {R : Rl β} {F F' H : Hp} {A B : Ow}
theorem AllO.mono (s : Same F F') : ∀ {vs : List V} {xs : List β} {A : Ow}, AllO R F vs xs A → AllO R F' vs xs A
  | [], [], _, h => h
  | _ :: _, _ :: _, _, ⟨B, C, e, h1, h2⟩ => ⟨B, C, e, R.mono h1 s, AllO.mono s h2⟩
  | [], _ :: _, _, h => h.elim
  | _ :: _, [], _, h => h.elim
theorem AllO.length : ∀ {vs : List V} {xs : List β} {A : Ow}, AllO R F vs xs A → vs.length = xs.length
  | [], [], _, _ => rfl
  | _ :: _, _ :: _, _, ⟨_, _, _, _, h⟩ => congrArg (· + 1) (AllO.length h)
  | [], _ :: _, _, h => h.elim
  | _ :: _, [], _, h => h.elim
theorem AllO.app {v : V} {x : β} {B : Ow} (r : R.P F v x B) : ∀ {vs : List V} {xs : List β} {A : Ow}, AllO R F vs xs A → AllO R F (vs ++ [v]) (xs ++ [x]) (A ++ B)
  | [], [], A, h => ⟨B, [], by rw [show A = [] from h, List.append_nil]; rfl, r, rfl⟩
  | _ :: _, _ :: _, _, ⟨C, D, e, h1, h2⟩ => ⟨C, D ++ B, by rw [e, List.append_assoc], h1, AllO.app r h2⟩
  | [], _ :: _, _, h => h.elim
  | _ :: _, [], _, h => h.elim
/-- one item, and what stands for it -/
theorem AllO.at_ {i : Nat} {x : β} : ∀ {vs : List V} {xs : List β} {A : Ow}, AllO R F vs xs A → xs[i]? = some x → ∃ v L B C, vs[i]? = some v ∧ A = L ++ (B ++ C) ∧ R.P F v x B ∧
    ∀ F' y B', Same F F' → R.P F' v y B' → AllO R F' vs (xs.set i y) (L ++ (B' ++ C))
  | [], [], _, _, e => by simp at e
  | v :: vs, x' :: xs, A, ⟨B, C, eA, h1, h2⟩, e => by
    cases i with
    | zero =>
      simp at e
      subst e
      exact ⟨v, [], B, C, rfl, eA, h1, fun F' y B' s h => ⟨B', C, rfl, h, AllO.mono s h2⟩⟩
    | succ i =>
      obtain ⟨u, L, B2, C2, a1, a2, a3, a4⟩ := AllO.at_ (i := i) h2 (by simpa using e)
      refine ⟨u, B ++ L, B2, C2, by simpa using a1, by rw [eA, a2, List.append_assoc], a3, fun F' y B' s h => ?_⟩
      exact ⟨B, L ++ (B' ++ C2), by rw [List.append_assoc], R.mono h1 s, a4 F' y B' s h⟩
  | [], _ :: _, _, h, _ => h.elim
  | _ :: _, [], _, h, _ => h.elim
/-- a list of owned things, owned -/
def oLR (R : Rl β) : Rl (List β) := ⟨fun F v x A => ∃ a vs B, v = .ref a ∧ A = (a, .lst vs) :: B ∧ AllO R F vs x B, fun ⟨a, vs, B, e, q, r⟩ s => ⟨a, vs, B, e, q, AllO.mono s r⟩⟩
/-- all of a relation can be frozen -/
structure Frz (R : Rl β) (T : Ty β) : Prop where
  f : ∀ F H v x A, R.P F v x A → Holds F H A → ∃ F', T.R F' v x ∧ Ext F H A F' H []
theorem frz_fz {T : Ty β} : Frz (fz T) T := ⟨fun F H v x A ⟨e, r⟩ k => ⟨F, r, by rw [e] at k ⊢; exact Ext.refl k⟩⟩
theorem frz_oL {T : Ty β} : Frz (oL T) (tLst T) := ⟨fun F H v x A ⟨a, vs, ev, eA, r⟩ k => by
  subst eA
  have ex : Ext F H [(a, .lst vs)] (upd F a (.lst vs)) H [] := Ext.freeze k
  exact ⟨_, ⟨a, vs, ev, upd_same, T.all r ex.fz⟩, ex⟩⟩
theorem frz_all {T : Ty β} (z : Frz R T) : ∀ {vs : List V} {xs : List β} {A : Ow} {F H : Hp}, AllO R F vs xs A → Holds F H A → ∃ F', All2 (T.R F') vs xs ∧ Ext F H A F' H []
  | [], [], A, F, H, h, k => ⟨F, trivial, by rw [show A = [] from h] at k ⊢; exact Ext.refl k⟩
  | v :: vs, x :: xs, A, F, H, ⟨B, C, e, h1, h2⟩, k => by
    subst e
    obtain ⟨F1, r1, x1⟩ := z.f F H v x B h1 (k.sub (List.sublist_append_left _ _))
    have k1 := Ext.frame k x1
    obtain ⟨F2, r2, x2⟩ := frz_all z (AllO.mono x1.fz h2) k1.holds
    exact ⟨F2, ⟨T.mono r1 x2.fz, r2⟩, k1.trans x2⟩
  | [], _ :: _, _, _, _, h, _ => h.elim
  | _ :: _, [], _, _, _, h, _ => h.elim
theorem frz_oLR {T : Ty β} (z : Frz R T) : Frz (oLR R) (tLst T) := ⟨fun F H v x A ⟨a, vs, B, ev, eA, r⟩ k => by
  subst eA
  have ex : Ext F H ((a, .lst vs) :: B) (upd F a (.lst vs)) H B := Ext.freeze k
  obtain ⟨F2, r2, x2⟩ := frz_all z (AllO.mono ex.fz r) ex.holds
  exact ⟨F2, ⟨a, vs, ev, x2.fz _ _ upd_same, r2⟩, ex.trans x2⟩⟩
theorem SMvI.frz {T : Ty β} (z : Frz R T) : SMvI (sR R) (sR (TC.fz T)) := ⟨fun x F H o A ⟨v, e, r⟩ k => by
  obtain ⟨F', r', ex⟩ := z.f F H v x A r k
  exact ⟨F', [], ⟨v, e, rfl, r'⟩, ex⟩⟩
end
end TC
namespace TC
open PySem PySem.Spec PyProof.Rows L2
section
variable {XR : XRel} {W : WX} {X : Cx} {S S' S2 S3 L L1 L2' ρ : Type} {G : Ctx S} {G' : Ctx S'} {G2 : Ctx S2} {G3 : Ctx S3} {Gl : Ctx L} {G1 : Ctx L1} {Gb : Ctx L2'} {α β γ ι : Type} {e a b c : Expr} {es : List Expr} {st : Stmt} {sts sts' : List Stmt} {pos : Pos} {p p1 p2 p3 : Bool} {Rr : Rl ρ}
/-- one turn of a block, by its mirror -/
def TurnsR (T : Ty ι) (U : Rl β) (G : Ctx S) (vs : List Nat) (g : TG) (tt : TT) (te : TE) (body : ι → S → Res (Option β × S)) : Prop :=
  ∀ x s F σ H A v (Q1 : VK) (Q0 : Hp → Prop), G.P s F σ A → wipe σ vs = σ → Holds F H A → T.R F v x →
    (match body x s with
      | .ok (some y, s') => ∀ w F' H' B A', U.P F' w y B → G.P s' F' σ A' → Ext F H A F' H' (B ++ A') → Q1 w H'
      | .ok (none, s') => ∀ F' H' A', G.P s' F' σ A' → Ext F H A F' H' A' → Q0 H'
      | _ => False) →
    g v σ H fun σ2 H2 => wipe σ2 vs = σ ∧ tt σ2 H2 fun b H3 => if b = true then te σ2 H3 Q1 else Q0 H3
theorem lc_runR {T : Ty ι} {U : Rl β} {vs : List Nat} {g : TG} {tt : TT} {te : TE} {body : ι → S → Res (Option β × S)} (ht : TurnsR T U G vs g tt te body) (wo : WipeOk G vs) {J : It} {F H : Hp} {A : Ow} {σ : St} {s : S} {xs : List ι} {Q : VK} (wk : WalkOk J F T xs) (hg : G.P s F σ A) (hh : Holds F H A)
    (w : match mComp body xs s with
      | .ok (ys, s') => ∀ v F' H' B A', (oLR U).P F' v ys B → G.P s' F' (wipe σ vs) A' → Ext F H A F' H' (B ++ A') → Q v H'
      | _ => False) :
    ∀ D, H D = none → ∃ W : Nat → Nat → Hp → Prop, (∃ m, W 0 m (upd H D (.lst []))) ∧ ∀ i m H, W i m H →
  (J.stop i H ∧ Q (.ref D) H) ∨ (J.go i H ∧ ∃ Nx : Hp → Prop, (∀ H', Nx H' → ∃ m', m' < m ∧ W (i + 1) m' H') ∧ ∀ x H', J.yld i H x H' → g x (wipe σ vs) H' fun σ2 H2 => wipe σ2 vs = wipe σ vs ∧ tt σ2 H2 fun b H3 =>
    if b = true then te σ2 H3 fun y H4 => ∃ acc, H4 D = some (.lst acc) ∧ acc.length < sizeLine ∧ Nx (upd H4 D (.lst (acc ++ [y]))) else Nx H3) := by
  intro D hD
  obtain ⟨vs', r, wk⟩ := wk
  unfold mComp at w
  have hle : xs.length ≤ sizeLine := by
    by_cases z : xs.length ≤ sizeLine
    · exact z
    · rw [if_neg z] at w; exact w.elim
  rw [if_pos hle] at w
  let Pv : Nat → Hp → Prop := fun i H' => ∃ s' ys acc F' C A', G.P s' F' (wipe σ vs) A' ∧ Ext F H A F' H' ((D, .lst acc) :: (C ++ A')) ∧ AllO U F' acc ys C ∧ acc.length ≤ i ∧ (match compL body (xs.drop i) s' with
      | .ok (zs, s2) => ∀ v F' H' B A', (oLR U).P F' v (ys ++ zs) B → G.P s2 F' (wipe σ vs) A' → Ext F H A F' H' (B ++ A') → Q v H'
      | _ => False)
  refine ⟨fun i m H' => m = xs.length - i ∧ i ≤ xs.length ∧ Pv i H', ⟨xs.length, by simp, Nat.zero_le _, s, [], [], F, [], A, wo.w _ _ _ _ hg, Ext.newO hh hD, rfl, Nat.le_refl _, ?_⟩, ?_⟩
  · rw [List.drop_zero]
    cases q : compL body xs s with
    | bad => rw [q] at w; exact w
    | er e => rw [q] at w; exact w
    | ok r => obtain ⟨ys, s2⟩ := r; rw [q] at w; exact w
  rintro i m H' ⟨rfl, hi, s', ys, acc, F', C, A', g', ex, ra, la, w'⟩
  obtain ⟨go, yld, stop⟩ := wk H' (ex.fz.trans ex.holds.fz)
  rw [r.length] at go yld stop
  by_cases hlt : i < xs.length
  · refine .inr ⟨go i hlt, Pv (i + 1), fun H'' p' => ⟨xs.length - (i + 1), by omega, rfl, hlt, p'⟩, fun x H3 hy => ?_⟩
    obtain ⟨e3, hv⟩ := yld i x H3 hy hlt
    subst e3
    obtain ⟨v', hv', rx⟩ := r.getD hlt
    rw [hv] at hv'
    cases hv'
    rw [List.drop_eq_getElem_cons hlt] at w'
    unfold compL at w'
    have hA : Holds F' H3 (A' ++ ((D, .lst acc) :: C)) := ex.holds.perm (List.perm_append_comm (l₁ := (D, HO.lst acc) :: C) (l₂ := A'))
    have frame : ∀ {F4 H4 A4}, Ext F' H3 A' F4 H4 A4 → Ext F H A F4 H4 (((D, .lst acc) :: C) ++ A4) := fun {F4 H4 A4} e4 => by
      have z := (Ext.frame hA e4).permL (List.perm_append_comm (l₁ := A') (l₂ := (D, HO.lst acc) :: C))
      exact ex.trans (z.perm (List.perm_append_comm (l₁ := A4) (l₂ := (D, HO.lst acc) :: C)))
    refine ht xs[i] s' F' (wipe σ vs) H3 A' x (fun y H4 => ∃ acc, H4 D = some (.lst acc) ∧ acc.length < sizeLine ∧ Pv (i + 1) (upd H4 D (.lst (acc ++ [y])))) (Pv (i + 1)) g' (wipe_idem _ _) (hA.sub (List.sublist_append_left _ _)) (T.mono rx ex.fz) ?_
    cases q : body xs[i] s' with
    | bad => rw [q] at w'; exact w'
    | er e => rw [q] at w'; exact w'
    | ok yr =>
      obtain ⟨y, s1⟩ := yr
      rw [q] at w'
      dsimp only at w'
      cases y with
      | none =>
        intro F4 H4 A4 g4 e4
        refine ⟨s1, ys, acc, F4, C, A4, g4, frame e4, AllO.mono e4.fz ra, by omega, ?_⟩
        cases q2 : compL body (xs.drop (i + 1)) s1 with
        | bad => rw [q2] at w'; exact w'
        | er e => rw [q2] at w'; exact w'
        | ok r => rw [q2] at w'; exact w'
      | some y =>
        intro wv F4 H4 B4 A4 ry g4 e4
        have e5 : Ext F H A F4 H4 ((D, .lst acc) :: ((C ++ B4) ++ A4)) := by
          have z := frame e4
          rw [List.cons_append, ← List.append_assoc] at z
          exact z
        have hD4 : H4 D = some (.lst acc) := (e5.holds.ow (D, .lst acc) List.mem_cons_self).2
        refine ⟨acc, hD4, by omega, s1, ys ++ [y], acc ++ [wv], F4, C ++ B4, A4, g4, e5.trans (Ext.write e5.holds), AllO.app ry (AllO.mono e4.fz ra), by simp; omega, ?_⟩
        cases q2 : compL body (xs.drop (i + 1)) s1 with
        | bad => rw [q2] at w'; exact w'
        | er e => rw [q2] at w'; exact w'
        | ok r =>
          rw [q2] at w'
          dsimp only at w' ⊢
          intro v F' H' B A' h1 h2 h3
          refine w' v F' H' B A' ?_ h2 h3
          rwa [List.append_assoc] at h1
  · have ei : i = xs.length := by omega
    subst ei
    rw [List.drop_length] at w'
    refine .inl ⟨stop, ?_⟩
    have w2 : ∀ v F' H' B A', (oLR U).P F' v (ys ++ []) B → G.P s' F' (wipe σ vs) A' → Ext F H A F' H' (B ++ A') → Q v H' := w'
    exact w2 _ F' H' ((D, .lst acc) :: C) A' ⟨D, acc, C, rfl, rfl, by rw [List.append_nil]; exact ra⟩ g' ex
theorem em_lcGR {T : Ty ι} {U : Rl β} {fi : S → Res (List ι × S)} {tgt iter elt : Expr} {ifs : List Expr} {scope : Scope} {own : List (Str × Nat)} {put : S → ι → L1} {back : L1 → S} {ft : L1 → Res (Bool × L1)} {fe : L1 → Res (β × L1)} (hc : X.calm = true) (hN : X.N.Nodup) (hi : IM XR W X G tgt iter T fi)
    (ok : BlkOk X.N X.env.scope scope own) (ko : KeepOk G (own.map (·.2))) (tg : ∀ s H C cl fp, Tgt (Blk X scope s H C cl fp) tgt T G G1 put (own.map (·.2)))
    (tt : ∀ s H C cl fp, ∃ t, PTs (Blk X scope s H C cl fp) ifs t ∧ ∀ s F σ H A Q, G1.P s F σ A → Holds F H A → WPT XR W0 false σ G1 F H A s Q (ft s) → t σ H Q)
    (te : ∀ s H C cl fp, EM XR W0 (Blk X scope s H C cl fp) p G1 elt U fe) (bo : BackOk G1 G back) (hs : ∀ x, foldedSetIterable iter X.env x = pure x) :
    ∃ wi g tt te, PI X tgt iter wi ∧ (∀ s H C cl fp, PG (Blk X scope s H C cl fp) tgt g) ∧ (∀ s H C cl fp, PTs (Blk X scope s H C cl fp) ifs tt) ∧ (∀ s H C cl fp, PE (Blk X scope s H C cl fp) elt te) ∧
      ∀ s F σ H A Q, G.P s F σ A → Holds F H A → WPE XR W false σ (oLR U) G F H A s Q ((fi s).bind fun r => mComp (fun x s => (ft (put s x)).bind fun b => if b.1 then (fe b.2).bind fun q => .ok (some q.1, back q.2) else .ok (none, back b.2)) r.1 r.2) → tLc wi g tt te (own.map (·.2)) σ H Q := by
  obtain ⟨wi, hwi, hi⟩ := hi
  obtain ⟨g, hg, tg⟩ := all_tgt tg
  obtain ⟨t1, ht1, tt⟩ := all_pts tt
  obtain ⟨t2, ht2, te⟩ := all_em te
  refine ⟨wi, g, t1, t2, hwi, hg, ht1, ht2, fun s F σ H A Q gg k w => hi s F σ H A _ gg k ?_⟩
  cases q : fi s with
  | bad => rw [q] at w; exact w
  | er ex => rw [q] at w; exact w
  | ok xs =>
    obtain ⟨xs, s1⟩ := xs
    rw [q] at w
    simp only [Res.bind_ok] at w
    intro J F1 H1 A1 wk g1 e1
    refine lc_runR (U := U) (body := fun x s => (ft (put s x)).bind fun b => if b.1 then (fe b.2).bind fun q => .ok (some q.1, back q.2) else .ok (none, back b.2)) ?_ ko.wipe wk g1 e1.holds ?_
    · intro x s F σ H A v Q1 Q0 g0 hw hh rx w'
      refine tg s F σ H A v x _ g0 hh.fz rx fun σ' A' g2 sb ew => ⟨by rw [ew, hw], ?_⟩
      have h2 := hh.sub sb
      have ex2 : Ext F H A F H A' := (Ext.refl hh).sub sb
      refine tt (put s x) F σ' H A' _ g2 h2 ?_
      dsimp only at w'
      cases q3 : ft (put s x) with
      | bad => rw [q3] at w'; exact w'
      | er ex => rw [q3] at w'; exact w'.elim
      | ok br =>
        obtain ⟨b, l1⟩ := br
        rw [q3] at w'
        simp only [Res.bind_ok] at w'
        intro F3 H3 A3 g3 e3 _
        cases b with
        | false =>
          rw [if_neg Bool.false_ne_true]
          simp only [Bool.false_eq_true, if_false] at w'
          obtain ⟨A4, sb4, g4⟩ := bo.b l1 F3 σ' A3 g3
          exact w' F3 H3 A4 (ko.k _ _ _ _ _ g4 ew) (ex2.trans (e3.sub sb4))
        | true =>
          rw [if_pos rfl]
          simp only [if_true] at w'
          refine te l1 F3 σ' H3 A3 _ g3 e3.holds ?_
          cases q4 : fe l1 with
          | bad => rw [q4] at w'; exact w'
          | er ex => rw [q4] at w'; exact w'.elim
          | ok yr =>
            obtain ⟨y, l2⟩ := yr
            rw [q4] at w'
            rintro u F5 H5 B A5 ru g5 e5 _
            obtain ⟨A6, sb6, g6⟩ := bo.b l2 F5 σ' A5 g5
            exact w' u F5 H5 B A6 ru (ko.k _ _ _ _ _ g6 ew) (ex2.trans (e3.trans (e5.sub (List.Sublist.append (List.Sublist.refl B) sb6))))
    · have nm : ∀ ex, mComp (fun x s => (ft (put s x)).bind fun b => if b.1 = true then (fe b.2).bind fun q => .ok (some q.1, back q.2) else .ok (none, back b.2)) xs s1 ≠ .er ex := fun _ => mComp_ne
      generalize mComp (fun x s => (ft (put s x)).bind fun b => if b.1 = true then (fe b.2).bind fun q => .ok (some q.1, back q.2) else .ok (none, back b.2)) xs s1 = res at w nm ⊢
      cases res with
      | bad => exact w
      | er e => exact absurd rfl (nm e)
      | ok r =>
        obtain ⟨ys, s2⟩ := r
        exact fun v F' H' B A' h1 h2 h3 => w v F' H' B A' h1 (ko.k _ _ _ _ _ h2 (wipe_idem _ _)) (e1.trans h3) (fun z => by cases z)

section
variable {T : Ty ι} {U : Rl β} {fi : S → Res (List ι × S)} {tgt iter elt : Expr} {scope : Scope} {own : List (Str × Nat)} {put : S → ι → L1} {back : L1 → S} {ft : L1 → Res (Bool × L1)} {fe : L1 → Res (β × L1)}
theorem em_lcR (hc : X.calm = true) (hN : X.N.Nodup) (hi : IM XR W X G tgt iter T fi)
    (ok : BlkOk X.N X.env.scope scope own) (ko : KeepOk G (own.map (·.2))) (tg : ∀ s H C cl fp, Tgt (Blk X scope s H C cl fp) tgt T G G1 put (own.map (·.2)))
    (te : ∀ s H C cl fp, EM XR W0 (Blk X scope s H C cl fp) p G1 elt U fe) (bo : BackOk G1 G back) (hs : ∀ x, foldedSetIterable iter X.env x = pure x := by intro _; rfl) :
    EM XR W X false G (.ListComp elt [⟨tgt, iter, [], 0⟩] scope pos) (oLR U) (fun s => (fi s).bind fun r => mComp (fun x s => (fe (put s x)).bind fun q => .ok (some q.1, back q.2)) r.1 r.2) := by
  obtain ⟨wi, g, t1, t2, h1, h2, h3, h4, h⟩ := em_lcGR (ft := fun l => .ok (true, l)) (ifs := []) hc hN hi ok ko tg (fun s H C cl fp => ⟨_, pts_nil, fun s F σ H A Q g k w => w F H A g (Ext.refl k) (fun z => by cases z)⟩) te bo hs
  exact ⟨_, pe_lc hc hN h1 ok h2 h3 h4 hs, h⟩
/-- name = [..] on one line -/
theorem sm_setLcR {sl : Sl α} {i : Nat} {y : Str} {py spos : Pos} {get : S → α} {put' : S → List β → S'} (hc : X.calm = true) (hN : X.N.Nodup) (hy : X.N[i]? = some y) (hyl : X.env.scope.names.lookup y = some .local) (at_ : At G i sl get (sR (oLR U)) G' put')
    (hsw : swapsWith (.ListComp elt [⟨tgt, iter, [], 0⟩] scope pos) (some (.Name y py)) spos.line X.env = pure true) (hi : IM XR W X G tgt iter T fi)
    (ok : BlkOk X.N X.env.scope scope own) (ko : KeepOk G (own.map (·.2))) (tg : ∀ s H C cl fp, Tgt (Blk X scope s H C cl fp) tgt T G G1 put (own.map (·.2)))
    (te : ∀ s H C cl fp, EM XR W0 (Blk X scope s H C cl fp) p G1 elt U fe) (bo : BackOk G1 G back) (hs : ∀ x, foldedSetIterable iter X.env x = pure x := by intro _; rfl) :
    SM XR W X Rr Gb G (.Assign [.Name y py] (.ListComp elt [⟨tgt, iter, [], 0⟩] scope pos) spos) G' (fun s => ((fi s).bind fun r => mComp (fun x s => (fe (put s x)).bind fun q => .ok (some q.1, back q.2)) r.1 r.2).out fun r => .nx (put' r.2 r.1)) := by
  obtain ⟨wi, g, t1, t2, h1, h2, h3, h4, h⟩ := em_lcGR (ft := fun l => .ok (true, l)) (ifs := []) hc hN hi ok ko tg (fun s H C cl fp => ⟨_, pts_nil, fun s F σ H A Q g k w => w F H A g (Ext.refl k) (fun z => by cases z)⟩) te bo hs
  refine ⟨_, ps_setLc hc hN hy hyl hsw h1 ok h2 h3 h4 hs, fun s F σ H A D gg k w => h s F σ H A _ gg k (WPE.bindS (p1 := false) w fun y s1 v F1 H1 B A1 r1 g1 e1 w => ?_)⟩
  obtain ⟨o, L, C, R', q1, q2, _, st⟩ := at_.at_ s1 F1 σ A1 g1
  subst q2
  exact w F1 _ H1 _ (st F1 (some v) y B (Same.refl _) ⟨v, rfl, r1⟩) e1.store
end
/-! ### x[i].append(e) -/
def mAppIx {α : Type} (xs : List (List α)) (i : Int) (y : α) : Res (List (List α)) := match ixN xs.length i with
  | none => .bad
  | some j => match xs[j]? with
    | none => .bad
    | some ys => if ys.length < sizeLine then .ok (xs.set j (ys ++ [y])) else .bad
theorem AllO.atI {R : Rl β} {F : Hp} {vs : List V} {xs : List β} {A : Ow} {i : Int} {j : Nat} (h : AllO R F vs xs A) (e : ixN xs.length i = some j) {v : V} (hv : vs[j]? = some v) : L2.atI vs i = some v := by
  unfold L2.atI
  rw [h.length, e]
  exact hv
theorem mIx_at {xs : List α} {j : Int} {y : α} (h : mIx xs j = .ok y) : ∃ n, ixN xs.length j = some n ∧ xs[n]? = some y := by
  unfold mIx L2.atI at h
  cases q : ixN xs.length j with
  | none => rw [q] at h; cases h
  | some n =>
    rw [q] at h
    cases q2 : xs[n]? with
    | none => simp [q2] at h
    | some z => simp [q2] at h; subst h; exact ⟨n, rfl, q2⟩
theorem WPE.bindSp {L ρ S2 : Type} {R : Rl ρ} {Gb : Ctx L} {G2 : Ctx S2} {R1 : Rl α} {σ : St} {F H : Hp} {A : Ow} {s : S} {D : Ends} {Q1 : VK} {r : Res (α × S)} {k : α × S → Out S2 L ρ} (h : WPS XR W R Gb G2 F H A D (r.out k))
    (hk : ∀ x s' v F' H' B A', R1.P F' v x B → G.P s' F' σ A' → Ext F H A F' H' (B ++ A') → (p1 = true → A' = A ∧ s' = s) → WPS XR W R Gb G2 F H A D (k (x, s')) → Q1 v H') : WPE XR W p1 σ R1 G F H A s Q1 r := by
  cases r with
  | bad => exact h
  | er ex => exact fun cls oe F' H' A' h1 h2 => h cls oe F' H' σ A' h1 h2
  | ok xs =>
    obtain ⟨x, s'⟩ := xs
    exact fun v F' H' B A' h1 h2 h3 h4 => hk x s' v F' H' B A' h1 h2 h3 h4 h
theorem sm_appIx {T : Ty α} {fi : S → Res (Int × S)} {f : S → Res (α × S)} {i : Nat} {x : Str} {pp sp ap cp : Pos} {get : S → List (List α)} {put : S → List (List α) → S} (hN : X.N[i]? = some x) (hv : Vis X.env.scope x) (at_ : At G i (sR (oLR (oL T))) get (sR (oLR (oL T))) G put)
    (hi : EM XR W X p1 G b (fz tInt) fi) (h : EM XR W X true G e (fz T) f)
    (mk : ∀ tn ti te, PE X (.Name x pp) tn → PE X b ti → PE X e te → PE X (.Call (.Attribute (.Subscript (.Name x pp) b sp) "append" ap) [e] [] cp) (tBM X.K "list" rAppend (tOp (rIxL X.K) tn ti) (tCons te tNil)))
    (hs : swapsWith (.Call (.Attribute (.Subscript (.Name x pp) b sp) "append" ap) [e] [] cp) none pos.line X.env = pure false := by rfl)
    (hd : (x == ("__debug__" : Str)) = false := by decide) (hcd : (x == ("__classdict__" : Str)) = false := by decide) :
    SM XR W X Rr Gb G (.Expr (.Call (.Attribute (.Subscript (.Name x pp) b sp) "append" ap) [e] [] cp) pos) G (fun s => (fi s).out fun q => (mIx (get q.2) q.1).out fun _ => (f q.2).out fun r => (mAppIx (get q.2) q.1 r.1).out fun z => .nx (put q.2 z)) := by
  obtain ⟨ti, hti, hi⟩ := hi
  obtain ⟨t, ht, h⟩ := h
  refine ⟨_, ps_expr (mk _ _ _ (pe_var hN hv hd hcd) hti ht) hs, fun s F σ H A D g k w => ?_⟩
  obtain ⟨o, L, B, R', e1, e2, ⟨v0, ev0, a0, vs0, B0, eva0, eB0, r0⟩, _⟩ := at_.at_ s F σ A g
  refine ⟨v0, by rw [e1, ev0], hi s F σ H A _ g k (WPE.bindS (p1 := p1) w fun j s1 u F1 H1 B1 A1 ⟨rB, r1⟩ g1 x1 w => ?_)⟩
  subst rB
  obtain ⟨o', L', B', R2, e1', e2', ⟨v', ev', a, vs, B2, eva, eB', r'⟩, st⟩ := at_.at_ s1 F1 σ A1 g1
  rw [e1, ev0] at e1'
  cases e1'
  cases ev'
  subst eB'
  have hla : H1 a = some (.lst vs) := (x1.holds.ow (a, .lst vs) (by rw [e2']; simp)).2
  dsimp only at w
  cases q3 : mIx (get s1) j with
  | bad => rw [q3] at w; exact w.elim
  | er ex => exact absurd q3 mIx_ne
  | ok ys =>
    rw [q3] at w
    obtain ⟨n, q, q2⟩ := mIx_at q3
    unfold mAppIx at w
    simp only [q, q2, Res.out_ok] at w
    obtain ⟨z, L2', B3, C2, a1, a2, ⟨b2, ws, ez, eB3, rw3⟩, a4⟩ := r'.at_ q2
    subst ez eB3 a2 e2'
    have hlb : H1 b2 = some (.lst ws) := (x1.holds.ow (b2, .lst ws) (by simp)).2
    refine ⟨a, vs, j, .ref b2, eva, r1, SqL.of hla, AllO.atI r' q a1, .inl ⟨rfl, ws, SqL.of hlb⟩, h s1 F1 σ H1 _ _ g1 x1.holds (WPE.bindSp (w.later x1) fun y s2 u F2 H2 B2 A2 ⟨rB, ry⟩ g2 x2 q2 w => ?_)⟩
    subst rB
    obtain ⟨rfl, rfl⟩ := q2 rfl
    by_cases hz : ys.length < sizeLine
    · rw [if_pos hz] at w
      have hlb2 : H2 b2 = some (.lst ws) := (x2.holds.ow (b2, .lst ws) (by simp)).2
      refine ⟨b2, ws, u, rfl, rfl, hlb2, by rw [rw3.length]; exact hz, ?_⟩
      have x2' : Ext F1 H1 (L' ++ ((a, HO.lst vs) :: (L2' ++ ([(b2, HO.lst ws)] ++ C2)) ++ R2)) F2 H2 ((L' ++ ((a, HO.lst vs) :: L2')) ++ ([(b2, .lst ws)] ++ (C2 ++ R2))) := by
        simpa using x2
      have hw : Ext F2 H2 [(b2, .lst ws)] F2 (upd H2 b2 (.lst (ws ++ [u]))) [(b2, .lst (ws ++ [u]))] := Ext.write (x2'.holds.sub ((List.sublist_append_left _ _).trans (List.sublist_append_right _ _)))
      have hr := a4 F2 (ys ++ [y]) [(b2, .lst (ws ++ [u]))] x2.fz ⟨b2, ws ++ [u], rfl, rfl, (T.all rw3 x2.fz).append ⟨ry, trivial⟩⟩
      have gg := st F2 (some (.ref a)) ((get s2).set n (ys ++ [y])) _ x2.fz ⟨.ref a, rfl, a, vs, _, rfl, rfl, hr⟩
      rw [ev0, eva] at e1
      rw [set_same e1] at gg
      refine w F2 σ _ _ gg (x2'.trans ?_)
      have z := Ext.frameMid (L := L' ++ ((a, HO.lst vs) :: L2')) (A := [(b2, .lst ws)]) (R := C2 ++ R2) x2'.holds hw
      simpa using z
    · rw [if_neg hz] at w; exact w.elim
def kAppIx (get : S → List (List α)) (put : S → List (List α) → S) (fi : S → Res (Int × S)) (f : S → Res (α × S)) : S → Out S L ρ := fun s => (fi s).out fun q => (mIx (get q.2) q.1).out fun _ => (f q.2).out fun r => (mAppIx (get q.2) q.1 r.1).out fun z => .nx (put q.2 z)
def kM1 (g : α → Res γ) (f : S → Res (α × S)) : S → Res (γ × S) := fun s => (f s).bind fun r => (g r.1).bind fun z => .ok (z, r.2)
/-- what is owned is frozen -/
theorem em_frz {R : Rl α} {T : Ty α} {f : S → Res (α × S)} (z : Frz R T) (h : EM XR W X p G e R f) : EM XR W X p G e (fz T) f := by
  obtain ⟨t, ht, hh⟩ := h
  refine ⟨t, ht, fun s F σ H A Q g k w => hh s F σ H A Q g k ?_⟩
  cases q : f s with
  | bad => rw [q] at w; exact w
  | er ex => rw [q] at w; exact w
  | ok xs =>
    obtain ⟨x, s'⟩ := xs
    rw [q] at w
    intro v F' H' B A' h1 h2 h3 h4
    obtain ⟨F2, r2, ex2⟩ := z.f F' H' v x B h1 (h3.holds.sub (List.sublist_append_left _ _))
    have ex := Ext.frame h3.holds ex2
    exact w v F2 H' [] A' ⟨rfl, r2⟩ (G.mono h2 ex2.fz) (h3.trans ex) h4
theorem fn_okK {P : Program} {w : World} {K : PySem.W.Frag} {mg : Str → Option Value} {base : Heap} {x qual : Str} {st : Stmt} {f : Addr} {fd : FuncData} {N ps : List Str} {k : Nat} {ι P' S0 S1 : Type} {Z : ι → RA P'} {R : ι → Rl ρ} {G0 : ι → Ctx S0} {G1 : ι → Ctx S1} {init : P' → S0} {fb : S0 → Out S1 Unit ρ} {fall : S1 → Res ρ}
    (F : Fun K x qual st f fd) (S : FnScope N ps (defScope st)) {m n : Nat} (hm : ps.length = m) (hn : N.length - m = n) (start : ∀ i, StartG (Z i) (G0 i) m n init) (hf : ∀ i, FallOk (G1 i) (R i) fall)
    (body : ∀ (i : ι) (cdv : Value) (A : Around) (outer : List Env) (s : Shared) (H : Hp) (E : XK), Room k (A.deeper (envOfC qual (defScope st) s.heap.objs.size f cdv)) →
      SS XR (fun cls d _ H => E cls d H) (cxOf (L2.CX P w) P w K mg base N qual (defScope st) f cdv A outer s H E) (R i) gnil (G0 i) (defBody st) (G1 i) fb) :
    FnOk P w K mg base (L2.CX P w) (k + 1) f fd ps (spF XR Z R (kRun fb init fall)) :=
  fn_ok F S hm hn start hf body
section
variable {ι : Type} {G1 : Ctx S} {T : Ty ι} {U : Ty β} {UR : Rl β} {fi : S → Res (List ι × S)} {tgt iter elt : Expr} {scope : Scope} {own : List (Str × Nat)} {put : S → ι → S} {ft : S → Res (Bool × S)} {fe : S → Res (β × S)}
theorem em_lcK (hc : X.calm = true) (hN : X.N.Nodup) (hi : IM XR W X G tgt iter T fi)
    (ok : BlkOk X.N X.env.scope scope own) (ko : KeepOk G (own.map (·.2))) (tg : ∀ s H C cl fp, Tgt (Blk X scope s H C cl fp) tgt T G G1 put (own.map (·.2)))
    (te : ∀ s H C cl fp, EM XR W0 (Blk X scope s H C cl fp) p G1 elt (fz U) fe) (bo : BackOk G1 G (fun x => x)) (hs : ∀ x, foldedSetIterable iter X.env x = pure x := by intro _; rfl) :
    EM XR W X false G (.ListComp elt [⟨tgt, iter, [], 0⟩] scope pos) (oL U) (kLc fi put fe) :=
  em_lc hc hN hi ok ko tg te bo hs
theorem em_lcKIf {c : Expr} (hc : X.calm = true) (hN : X.N.Nodup) (hi : IM XR W X G tgt iter T fi)
    (ok : BlkOk X.N X.env.scope scope own) (ko : KeepOk G (own.map (·.2))) (tg : ∀ s H C cl fp, Tgt (Blk X scope s H C cl fp) tgt T G G1 put (own.map (·.2)))
    (tt : ∀ s H C cl fp, TM XR W0 (Blk X scope s H C cl fp) p1 G1 c ft)
    (te : ∀ s H C cl fp, EM XR W0 (Blk X scope s H C cl fp) p G1 elt (fz U) fe) (bo : BackOk G1 G (fun x => x)) (hs : ∀ x, foldedSetIterable iter X.env x = pure x := by intro _; rfl) :
    EM XR W X false G (.ListComp elt [⟨tgt, iter, [c], 0⟩] scope pos) (oL U) (kLcIf fi put ft fe) :=
  em_lcIf hc hN hi ok ko tg tt te bo hs
theorem sm_setLcK {sl : Sl α} {i : Nat} {y : Str} {py spos : Pos} {get : S → α} {put' : S → List β → S'} (hc : X.calm = true) (hN : X.N.Nodup) (hy : X.N[i]? = some y) (hyl : X.env.scope.names.lookup y = some .local) (at_ : At G i sl get (sR (oL U)) G' put')
    (hsw : swapsWith (.ListComp elt [⟨tgt, iter, [], 0⟩] scope pos) (some (.Name y py)) spos.line X.env = pure true) (hi : IM XR W X G tgt iter T fi)
    (ok : BlkOk X.N X.env.scope scope own) (ko : KeepOk G (own.map (·.2))) (tg : ∀ s H C cl fp, Tgt (Blk X scope s H C cl fp) tgt T G G1 put (own.map (·.2)))
    (te : ∀ s H C cl fp, EM XR W0 (Blk X scope s H C cl fp) p G1 elt (fz U) fe) (bo : BackOk G1 G (fun x => x)) (hs : ∀ x, foldedSetIterable iter X.env x = pure x := by intro _; rfl) :
    SM XR W X Rr Gb G (.Assign [.Name y py] (.ListComp elt [⟨tgt, iter, [], 0⟩] scope pos) spos) G' (kSet (kLc fi put fe) put') :=
  sm_setLc hc hN hy hyl at_ hsw hi ok ko tg te bo hs
theorem sm_setLcKIf {c : Expr} {sl : Sl α} {i : Nat} {y : Str} {py spos : Pos} {get : S → α} {put' : S → List β → S'} (hc : X.calm = true) (hN : X.N.Nodup) (hy : X.N[i]? = some y) (hyl : X.env.scope.names.lookup y = some .local) (at_ : At G i sl get (sR (oL U)) G' put')
    (hsw : swapsWith (.ListComp elt [⟨tgt, iter, [c], 0⟩] scope pos) (some (.Name y py)) spos.line X.env = pure true) (hi : IM XR W X G tgt iter T fi)
    (ok : BlkOk X.N X.env.scope scope own) (ko : KeepOk G (own.map (·.2))) (tg : ∀ s H C cl fp, Tgt (Blk X scope s H C cl fp) tgt T G G1 put (own.map (·.2)))
    (tt : ∀ s H C cl fp, TM XR W0 (Blk X scope s H C cl fp) p1 G1 c ft)
    (te : ∀ s H C cl fp, EM XR W0 (Blk X scope s H C cl fp) p G1 elt (fz U) fe) (bo : BackOk G1 G (fun x => x)) (hs : ∀ x, foldedSetIterable iter X.env x = pure x := by intro _; rfl) :
    SM XR W X Rr Gb G (.Assign [.Name y py] (.ListComp elt [⟨tgt, iter, [c], 0⟩] scope pos) spos) G' (kSet (kLcIf fi put ft fe) put') :=
  sm_setLcIf hc hN hy hyl at_ hsw hi ok ko tg tt te bo hs
theorem em_lcKR (hc : X.calm = true) (hN : X.N.Nodup) (hi : IM XR W X G tgt iter T fi)
    (ok : BlkOk X.N X.env.scope scope own) (ko : KeepOk G (own.map (·.2))) (tg : ∀ s H C cl fp, Tgt (Blk X scope s H C cl fp) tgt T G G1 put (own.map (·.2)))
    (te : ∀ s H C cl fp, EM XR W0 (Blk X scope s H C cl fp) p G1 elt UR fe) (bo : BackOk G1 G (fun x => x)) (hs : ∀ x, foldedSetIterable iter X.env x = pure x := by intro _; rfl) :
    EM XR W X false G (.ListComp elt [⟨tgt, iter, [], 0⟩] scope pos) (oLR UR) (kLc fi put fe) :=
  em_lcR hc hN hi ok ko tg te bo hs
theorem sm_setLcKR {sl : Sl α} {i : Nat} {y : Str} {py spos : Pos} {get : S → α} {put' : S → List β → S'} (hc : X.calm = true) (hN : X.N.Nodup) (hy : X.N[i]? = some y) (hyl : X.env.scope.names.lookup y = some .local) (at_ : At G i sl get (sR (oLR UR)) G' put')
    (hsw : swapsWith (.ListComp elt [⟨tgt, iter, [], 0⟩] scope pos) (some (.Name y py)) spos.line X.env = pure true) (hi : IM XR W X G tgt iter T fi)
    (ok : BlkOk X.N X.env.scope scope own) (ko : KeepOk G (own.map (·.2))) (tg : ∀ s H C cl fp, Tgt (Blk X scope s H C cl fp) tgt T G G1 put (own.map (·.2)))
    (te : ∀ s H C cl fp, EM XR W0 (Blk X scope s H C cl fp) p G1 elt UR fe) (bo : BackOk G1 G (fun x => x)) (hs : ∀ x, foldedSetIterable iter X.env x = pure x := by intro _; rfl) :
    SM XR W X Rr Gb G (.Assign [.Name y py] (.ListComp elt [⟨tgt, iter, [], 0⟩] scope pos) spos) G' (kSet (kLc fi put fe) put') :=
  sm_setLcR hc hN hy hyl at_ hsw hi ok ko tg te bo hs
end
/-- membership, as a function of its own -/
def mIn [DecidableEq α] (x : α) (xs : List α) : Bool := decide (x ∈ xs)
def mNin [DecidableEq α] (x : α) (xs : List α) : Bool := !decide (x ∈ xs)
theorem cm_inL [DecidableEq α] {T : Ty α} (c : Scal T) : Cmp X .In T (tLst T) mIn := c_inL c
theorem cm_inT [DecidableEq α] {T : Ty α} (c : Scal T) : Cmp X .In T (tTup T) mIn := c_inT c
theorem cm_ninL [DecidableEq α] {T : Ty α} (c : Scal T) : Cmp X .NotIn T (tLst T) mNin := c_ninL c
theorem cm_ninT [DecidableEq α] {T : Ty α} (c : Scal T) : Cmp X .NotIn T (tTup T) mNin := c_ninT c
def mEq [DecidableEq α] (x y : α) : Bool := decide (x = y)
def mNe [DecidableEq α] (x y : α) : Bool := !decide (x = y)
theorem cm_eqS [DecidableEq α] {T : Ty α} (c : Scal T) : Cmp X .Eq T T mEq := c_eqS c
theorem cm_neS [DecidableEq α] {T : Ty α} (c : Scal T) : Cmp X .NotEq T T mNe := c_neS c
theorem cm_eqD [DecidableEq α] {T : Ty α} (c : EqT X.K T) (hu : X.A.units + 64 < cLine) (hd : c.d ≤ 64) : Cmp X .Eq T T mEq := c_eqD c hu hd
theorem cm_neD [DecidableEq α] {T : Ty α} (c : EqT X.K T) (hu : X.A.units + 64 < cLine) (hd : c.d ≤ 64) : Cmp X .NotEq T T mNe := c_neD c hu hd
def mLt (i j : Int) : Bool := decide (i < j)
def mLe (i j : Int) : Bool := decide (i ≤ j)
def mGt (i j : Int) : Bool := decide (j < i)
def mGe (i j : Int) : Bool := decide (j ≤ i)
theorem cm_lt : Cmp X .Lt tInt tInt mLt := c_lt
theorem cm_le : Cmp X .LtE tInt tInt mLe := c_le
theorem cm_gt : Cmp X .Gt tInt tInt mGt := c_gt
theorem cm_ge : Cmp X .GtE tInt tInt mGe := c_ge
end
end TC
namespace TC
open PySem PySem.Spec PyProof.Rows L2
section
variable {S S' S2 L L1 L' ρ α β γ ι P : Type} {E : Ex → Prop} {s : S} {R : ρ → Prop} {B C : L → Prop} {QS : S → Prop}
theorem w_AppIx {get : S → List (List α)} {put : S → List (List α) → S} {fi : S → Res (Int × S)} {f : S → Res (α × S)} : (kAppIx get put fi f s : Out S L ρ).Is E R B C QS = (fi s).Is E fun q => (mIx (get q.2) q.1).Is E fun _ => (f q.2).Is E fun r => (mAppIx (get q.2) q.1 r.1).Is E fun z => QS (put q.2 z) := by
  unfold kAppIx; simp only [Res.is_out, Out.is_nx]
theorem is_mMax {x : Int} {xs : List Int} {Q : Int → Prop} (k : Q (xs.foldl max x)) : (mMax (x :: xs)).Is E Q := by unfold mMax; exact isk k
theorem is_mIdx [DecidableEq α] {xs : List α} {y : α} {Q : Int → Prop} (h : y ∈ xs) (k : Q (xs.idxOf y : Nat)) : (mIdx xs y).Is E Q := by unfold mIdx; rw [if_pos h]; exact isk k
theorem is_mRep {xs : List α} {n : Int} {Q : List α → Prop} (h : -1000000 ≤ n ∧ n ≤ 1000000) (hl : xs.length * n.toNat ≤ 1000000) (k : Q (List.replicate n.toNat xs).flatten) : (mRep xs n).Is E Q := by
  unfold mRep
  rw [if_pos ⟨by omega, by omega, Nat.le_trans hl big_line⟩]
  exact isk k
theorem is_mAppIx {xs : List (List α)} {i : Int} {y : α} {Q : List (List α) → Prop} (ys : List α) (h0 : 0 ≤ i) (h : xs[i.toNat]? = some ys) (hl : ys.length < 1000000) (k : Q (xs.set i.toNat (ys ++ [y]))) : (mAppIx xs i y).Is E Q := by
  have hlt := (List.getElem?_eq_some_iff.mp h).1
  have e : ixN xs.length i = some i.toNat := by unfold ixN; rw [if_pos h0, if_pos (by omega)]
  unfold mAppIx
  simp only [e, h]
  rw [if_pos (Nat.lt_of_lt_of_le hl big_line)]
  exact isk k
theorem mEq_eq [DecidableEq α] (x y : α) : mEq x y = decide (x = y) := by unfold mEq; exact Eq.trans rfl rfl
theorem mNe_eq [DecidableEq α] (x y : α) : mNe x y = !decide (x = y) := by unfold mNe; exact Eq.trans rfl rfl
theorem mLt_eq (x y : Int) : mLt x y = decide (x < y) := by unfold mLt; exact Eq.trans rfl rfl
theorem mLe_eq (x y : Int) : mLe x y = decide (x ≤ y) := by unfold mLe; exact Eq.trans rfl rfl
theorem mGt_eq (x y : Int) : mGt x y = decide (y < x) := by unfold mGt; exact Eq.trans rfl rfl
theorem mGe_eq (x y : Int) : mGe x y = decide (y ≤ x) := by unfold mGe; exact Eq.trans rfl rfl
theorem mIn_eq [DecidableEq α] (x : α) (y : List α) : mIn x y = decide (x ∈ y) := by unfold mIn; exact Eq.trans rfl rfl
theorem mNin_eq [DecidableEq α] (x : α) (y : List α) : mNin x y = !decide (x ∈ y) := by unfold mNin; exact Eq.trans rfl rfl
end
end TC
namespace TC
open PySem PySem.Spec PyProof.Rows L2
section
variable {S S' S2 L ρ : Type} {E : Ex → Prop} {s : S} {R : ρ → Prop} {B C : L → Prop} {Q : S' → Prop} {Q2 : S2 → Prop}
/-- what is left of a block, folded -/
structure Rest (g : S → Out S' L ρ) (E : Ex → Prop) (R : ρ → Prop) (B C : L → Prop) (Q : S' → Prop) (s : S) : Prop where
  h : (g s).Is E R B C Q
theorem rest_eq {g : S → Out S' L ρ} : Rest g E R B C Q s = (g s).Is E R B C Q := propext ⟨fun h => h.h, fun h => ⟨h⟩⟩
theorem w_SeqL {f : S → Out S' L ρ} {g : S' → Out S2 L ρ} : (kSeq f g s).Is E R B C Q2 = (f s).Is E R B C (Rest g E R B C Q2) := by
  rw [w_Seq]
  congr 1
  funext x
  exact rest_eq.symm
end
end TC
/-! casts, alternatives, tuples of any width, slices, tuples joined, x[i] += e -/
namespace TC
open PySem PySem.Spec PyProof.Rows L2
section
variable {XR : XRel} {W : WX} {X : Cx} {S S' S2 L ρ : Type} {G : Ctx S} {G' : Ctx S'} {α β γ ι : Type} {e a b : Expr} {es : List Expr} {pos : Pos} {p p1 p2 p3 : Bool} {Rr : Rl ρ} {Gb : Ctx L}

/-! ### casts -/
theorem em_castM {R : Rl α} {R' : Rl β} {f : S → Res (α × S)} (c : α → Res β) (ne : ∀ x ex, c x ≠ .er ex) (im : ∀ F v x y A, R.P F v x A → c x = .ok y → R'.P F v y A) (h : EM XR W X p G e R f) : EM XR W X p G e R' (kU c f) := by
  obtain ⟨t, ht, hh⟩ := h
  refine ⟨t, ht, fun s F σ H A Q g k w => hh s F σ H A Q g k (WPE.bind w fun x s' v F' H' B A' h1 h2 h3 h4 w => ?_)⟩
  dsimp only at w
  cases q : c x with
  | bad => rw [q] at w; exact w.elim
  | er ex => exact absurd q (ne x ex)
  | ok y => rw [q] at w; exact w v F' H' B A' (im _ _ _ _ _ h1 q) h2 h3 h4
def mSome (o : Option α) : Res α := match o with | some x => .ok x | none => .bad
theorem em_getO {T : Ty α} {f : S → Res (Option α × S)} (h : EM XR W X p G e (fz (tOpt T)) f) : EM XR W X p G e (fz T) (kU mSome f) :=
  em_castM mSome (fun x ex => by cases x <;> (intro z; cases z)) (fun F v x y A r q => by
    cases x with
    | none => cases q
    | some z => cases q; exact ⟨r.1, r.2.2⟩) h
def tAlt (T : Ty α) (U : Ty β) : Ty (α ⊕ β) := ⟨fun F v x => match x with | .inl y => T.R F v y | .inr y => U.R F v y, fun {F F' v x} h s => by
  cases x with
  | inl y => exact T.mono h s
  | inr y => exact U.mono h s⟩
def mInl (o : α ⊕ β) : Res α := match o with | .inl x => .ok x | .inr _ => .bad
def mInr (o : α ⊕ β) : Res β := match o with | .inr x => .ok x | .inl _ => .bad
section
variable {T : Ty α} {U : Ty β}
theorem em_toL {f : S → Res (α × S)} (h : EM XR W X p G e (fz T) f) : EM XR W X p G e (fz (tAlt T U)) (kF Sum.inl f) := em_cast (R := fz T) (R' := fz (tAlt T U)) Sum.inl (fun F v x A r => r) h
theorem em_toR {f : S → Res (β × S)} (h : EM XR W X p G e (fz U) f) : EM XR W X p G e (fz (tAlt T U)) (kF Sum.inr f) := em_cast (R := fz U) (R' := fz (tAlt T U)) Sum.inr (fun F v x A r => r) h
theorem em_getL {f : S → Res ((α ⊕ β) × S)} (h : EM XR W X p G e (fz (tAlt T U)) f) : EM XR W X p G e (fz T) (kU mInl f) :=
  em_castM mInl (fun x ex => by cases x <;> (intro z; cases z)) (fun F v x y A r q => by
    cases x with
    | inl z => cases q; exact r
    | inr z => cases q) h
theorem em_getR {f : S → Res ((α ⊕ β) × S)} (h : EM XR W X p G e (fz (tAlt T U)) f) : EM XR W X p G e (fz U) (kU mInr f) :=
  em_castM mInr (fun x ex => by cases x <;> (intro z; cases z)) (fun F v x y A r q => by
    cases x with
    | inl z => cases q
    | inr z => cases q; exact r) h
def mAlt (g1 : α → γ) (g2 : β → γ) (x : α ⊕ β) : γ := match x with | .inl y => g1 y | .inr y => g2 y
theorem o1_alt {r : V → Hp → VK → Prop} {R : Rl γ} {g1 : α → Res γ} {g2 : β → Res γ} (h1 : Op1 r T g1 R) (h2 : Op1 r U g2 R) : Op1 r (tAlt T U) (mAlt g1 g2) R := fun F H v x Q rv s h nb ne => by
  cases x with
  | inl y => exact h1 F H v y Q rv s h nb ne
  | inr y => exact h2 F H v y Q rv s h nb ne
theorem o1_bad {r : V → Hp → VK → Prop} {R : Rl γ} : Op1 r T (fun _ => (.bad : Res γ)) R := fun F H v x Q rv s h nb ne => absurd rfl nb
/-- x[c], c written, where both ways are tuples -/
theorem em_ixAlt {c : Int} {R : Rl γ} {g1 : α → Res γ} {g2 : β → Res γ} {f : S → Res ((α ⊕ β) × S)} {j : Nat} {pp : Pos} (h1 : Op1 (fun v H Q => rIxT X.K v (.int c) H Q) T g1 R) (h2 : Op1 (fun v H Q => rIxT X.K v (.int c) H Q) U g2 R) (ne1 : ∀ x ex, g1 x ≠ .er ex) (ne2 : ∀ x ex, g2 x ≠ .er ex) (h : EM XR W X p G a (fz (tAlt T U)) f) :
    EM XR W X p G (.Subscript a (.Constant (.int c) j pp) pos) R (kU (mAlt g1 g2) f) :=
  em_op1 (r := fun v H Q => rIxT X.K v (.int c) H Q) (fun _ u => pe_ix ix_tup u pe_int (fun _ _ => rfl)) (o1_alt h1 h2) (fun x ex => by
    cases x with
    | inl y => exact ne1 y ex
    | inr y => exact ne2 y ex) h
end
theorem badne {α : Type} {ex : Ex} : (Res.bad : Res α) ≠ .er ex := by intro h; cases h
section
variable {K : PySem.W.Frag} {T : Ty α} {U : Ty β} {V' : Ty γ}
theorem o2_t0 : Op1 (fun v H Q => rIxT K v (.int 0) H Q) (tP3 T U V') (fun x => .ok x.1) (fz T) := fun F H v x Q ⟨a, v1, v2, v3, ev, q, r1, r2, r3⟩ s h _ _ => ⟨a, _, 0, v1, ev, rfl, SqT.of (s _ _ q), rfl, h _ rfl v1 F H [] ⟨rfl, r1⟩ (Ext.refl (holds_nil s))⟩
theorem o2_t1 : Op1 (fun v H Q => rIxT K v (.int 1) H Q) (tP3 T U V') (fun x => .ok x.2.1) (fz U) := fun F H v x Q ⟨a, v1, v2, v3, ev, q, r1, r2, r3⟩ s h _ _ => ⟨a, _, 1, v2, ev, rfl, SqT.of (s _ _ q), rfl, h _ rfl v2 F H [] ⟨rfl, r2⟩ (Ext.refl (holds_nil s))⟩
theorem o2_t2 : Op1 (fun v H Q => rIxT K v (.int 2) H Q) (tP3 T U V') (fun x => .ok x.2.2) (fz V') := fun F H v x Q ⟨a, v1, v2, v3, ev, q, r1, r2, r3⟩ s h _ _ => ⟨a, _, 2, v3, ev, rfl, SqT.of (s _ _ q), rfl, h _ rfl v3 F H [] ⟨rfl, r3⟩ (Ext.refl (holds_nil s))⟩
end
/-- a triple of one kind as a tuple -/
theorem em_t3T {T : Ty α} {f : S → Res ((α × α × α) × S)} (h : EM XR W X p G e (fz (tP3 T T T)) f) : EM XR W X p G e (fz (tTup T)) (kF (fun x => [x.1, x.2.1, x.2.2]) f) :=
  em_cast (R := fz (tP3 T T T)) (R' := fz (tTup T)) (fun x => [x.1, x.2.1, x.2.2]) (fun F v x A ⟨e, a, v1, v2, v3, ev, q, r1, r2, r3⟩ => ⟨e, a, _, ev, q, r1, r2, r3, trivial⟩) h
theorem em_t2T {T : Ty α} {f : S → Res ((α × α) × S)} (h : EM XR W X p G e (fz (tP2 T T)) f) : EM XR W X p G e (fz (tTup T)) (kF (fun x => [x.1, x.2]) f) :=
  em_cast (R := fz (tP2 T T)) (R' := fz (tTup T)) (fun x => [x.1, x.2]) (fun F v x A ⟨e, a, v1, v2, ev, q, r1, r2⟩ => ⟨e, a, _, ev, q, r1, r2, trivial⟩) h

/-! ### tuples of any width -/
structure HTy (P : Type) where
  R : Hp → List V → P → Prop
  mono : ∀ {F F' vs x}, R F vs x → Same F F' → R F' vs x
  n : Nat
  len : ∀ {F vs x}, R F vs x → vs.length = n
def hnil : HTy Unit := ⟨fun _ vs _ => vs = [], fun h _ => h, 0, fun h => by rw [h]; rfl⟩
def hcons {α P : Type} (T : Ty α) (Z : HTy P) : HTy (α × P) := ⟨fun F vs x => ∃ v r, vs = v :: r ∧ T.R F v x.1 ∧ Z.R F r x.2, fun ⟨v, r, e, h1, h2⟩ s => ⟨v, r, e, T.mono h1 s, Z.mono h2 s⟩, Z.n + 1, fun ⟨v, r, e, h1, h2⟩ => by rw [e, List.length_cons, Z.len h2]⟩
def tH {P : Type} (Z : HTy P) : Ty P := ⟨fun F v x => ∃ a vs, v = .ref a ∧ F a = some (.tup vs) ∧ Z.R F vs x, fun ⟨a, vs, e, q, r⟩ s => ⟨a, vs, e, s _ _ q, Z.mono r s⟩⟩
/-- place i -/
structure HAt {P : Type} (Z : HTy P) (i : Nat) (T : Ty α) (proj : P → α) : Prop where
  at_ : ∀ F vs x, Z.R F vs x → ∃ v, vs[i]? = some v ∧ T.R F v (proj x)
theorem hat_z {P : Type} {T : Ty α} {Z : HTy P} : HAt (hcons T Z) 0 T (fun x => x.1) := ⟨fun F vs x ⟨v, r, e, h1, h2⟩ => ⟨v, by rw [e]; rfl, h1⟩⟩
theorem hat_s {P : Type} {T : Ty α} {U : Ty β} {Z : HTy P} {i : Nat} {proj : P → α} (h : HAt Z i T proj) : HAt (hcons U Z) (i + 1) T (fun x => proj x.2) := ⟨fun F vs x ⟨v, r, e, h1, h2⟩ => by
  obtain ⟨w, q1, q2⟩ := h.at_ F r x.2 h2
  exact ⟨w, by rw [e]; exact q1, q2⟩⟩
theorem o1_hat {K : PySem.W.Frag} {P : Type} {Z : HTy P} {i : Nat} {T : Ty α} {proj : P → α} (h : HAt Z i T proj) : Op1 (fun v H Q => rIxT K v (.int (i : Int)) H Q) (tH Z) (fun x => .ok (proj x)) (fz T) := fun F H v x Q ⟨a, vs, ev, q, r⟩ s hh _ _ => by
  obtain ⟨w, q1, q2⟩ := h.at_ F vs x r
  exact ⟨a, vs, i, w, ev, rfl, SqT.of (s _ _ q), atI_nat q1, hh _ rfl w F H [] ⟨rfl, q2⟩ (Ext.refl (holds_nil s))⟩
theorem em_hix {P : Type} {Z : HTy P} {i : Nat} {T : Ty α} {proj : P → α} {f : S → Res (P × S)} {c : Int} {j : Nat} {pp : Pos} (h : HAt Z i T proj) (hc : c = (i : Int)) (ha : EM XR W X p G a (fz (tH Z)) f) : EM XR W X p G (.Subscript a (.Constant (.int c) j pp) pos) (fz T) (kF proj f) := by
  subst hc
  exact em_op1 (r := fun v H Q => rIxT X.K v (.int (i : Int)) H Q) (fun _ u => pe_ix ix_tup u pe_int (fun _ _ => rfl)) (o1_hat h) (fun _ _ => okne) ha
/-- .. written -/
def aH {P : Type} (Z : HTy P) : RA P := ⟨fun F vs x A => A = [] ∧ Z.R F vs x, fun h s => ⟨h.1, Z.mono h.2 s⟩⟩
theorem am_Hnil : AM XR W X true G [] (aH hnil) kU0 := ⟨_, pa_nil, fun s F σ H A Q g k h => h _ F H [] A ⟨rfl, rfl⟩ g (Ext.refl k) fun _ => ⟨rfl, rfl⟩⟩
theorem am_Hcons {P : Type} {T : Ty α} {Z : HTy P} {f : S → Res (α × S)} {g : S → Res (P × S)} (ha : EM XR W X p1 G e (fz T) f) (hz : AM XR W X p2 G es (aH Z) g) (hs : starEach (e :: es) X.env = (false, eval e X.env) :: starEach es X.env := by rfl) :
    AM XR W X (p1 && p2) G (e :: es) (aH (hcons T Z)) (kPair f g) := by
  obtain ⟨t, ht, ha⟩ := ha
  obtain ⟨u, hu, hz⟩ := hz
  refine ⟨_, pa_cons ht hu hs, fun s F σ H A Q gg k w => ha s F σ H A _ gg k (WPE.bindA w fun x s1 v F1 H1 B A1 ⟨rB, r1⟩ g1 e1 q1 w => ?_)⟩
  subst rB
  refine hz s1 F1 σ H1 A1 _ g1 e1.holds ?_
  cases q : g s1 with
  | bad => rw [q] at w; exact w
  | er ex => rw [q] at w; exact fun cls oe F' H' A' h1 h2 => w cls oe F' H' A' h1 (e1.trans h2)
  | ok ys =>
    obtain ⟨y, s2⟩ := ys
    rw [q] at w
    rintro vs F2 H2 B2 A2 ⟨rB, r2⟩ g2 e2 q2
    subst rB
    exact w (v :: vs) F2 H2 [] A2 ⟨rfl, v, vs, rfl, T.mono r1 e2.fz, r2⟩ g2 (e1.trans e2) fun hp => by
      simp only [Bool.and_eq_true] at hp
      exact ⟨(q2 hp.2).1.trans (q1 hp.1).1, (q2 hp.2).2.trans (q1 hp.1).2⟩
theorem em_tupH {P : Type} {Z : HTy P} {f : S → Res (P × S)} {k' : Nat} (h : AM XR W X p G es (aH Z) f) (hz : Z.n ≤ 1000 := by decide) : EM XR W X p G (.Tuple es k' pos) (fz (tH Z)) f := by
  obtain ⟨t, ht, h⟩ := h
  refine ⟨_, pe_tup ht, fun s F σ H A Q g k w => h s F σ H A _ g k ?_⟩
  cases q : f s with
  | bad => rw [q] at w; exact w
  | er ex => rw [q] at w; exact w
  | ok xs =>
    obtain ⟨x, s1⟩ := xs
    rw [q] at w
    rintro vs F1 H1 B A1 ⟨rB, r1⟩ g1 e1 q1
    subst rB
    refine ⟨by rw [Z.len r1]; exact Nat.le_trans hz (Nat.le_trans (by decide) big_line), fun l n => ?_⟩
    have ex : Ext F1 H1 A1 (upd F1 l (.tup vs)) (upd H1 l (.tup vs)) A1 := Ext.newF e1.holds n
    exact w _ _ _ [] A1 ⟨rfl, l, vs, rfl, upd_same, Z.mono r1 ex.fz⟩ (G.mono g1 ex.fz) (e1.trans ex) q1
/-- .. unpacked -/
def Tgts (X : Cx) {P L L1 : Type} (tgs : List Expr) (Z : HTy P) (Gl : Ctx L) (G1 : Ctx L1) (put : L → P → L1) (vs : List Nat) : Prop :=
  ∃ g, PGs X tgs g ∧ ∀ l F σ H A us x Q, Gl.P l F σ A → Same F H → Z.R F us x → (∀ σ' A', G1.P (put l x) F σ' A' → A'.Sublist A → wipe σ' vs = wipe σ vs → Q σ' H) → g us σ H Q
section
variable {L L1 L2' P : Type} {Gl : Ctx L} {G1 : Ctx L1} {G2 : Ctx L2'} {tg : Expr} {tgs : List Expr}
@[irreducible] def pN : L → Unit → L := fun l _ => l
theorem pN_eq (l : L) (x : Unit) : pN l x = l := by unfold pN; rfl
theorem tgs_nil : Tgts X [] hnil Gl Gl pN [] := by
  unfold pN
  exact ⟨_, pgs_nil, fun l F σ H A us x Q g s r h => ⟨r, h σ A g (List.Sublist.refl _) rfl⟩⟩
theorem wipe_app {σ σ' : St} {vs us : List Nat} (h : wipe σ vs = wipe σ' vs) : wipe σ (vs ++ us) = wipe σ' (vs ++ us) := by
  have hl : σ.length = σ'.length := by
    have := congrArg List.length h
    rwa [wipe_length, wipe_length] at this
  refine wipe_eq hl fun k hk => ?_
  rw [List.mem_append, not_or] at hk
  have := congrArg (fun z => z[k]?) h
  simp only [wipe_get, if_neg hk.1] at this
  exact this
theorem wipe_appR {σ σ' : St} {vs us : List Nat} (h : wipe σ us = wipe σ' us) : wipe σ (vs ++ us) = wipe σ' (vs ++ us) := by
  have hl : σ.length = σ'.length := by
    have := congrArg List.length h
    rwa [wipe_length, wipe_length] at this
  refine wipe_eq hl fun k hk => ?_
  rw [List.mem_append, not_or] at hk
  have := congrArg (fun z => z[k]?) h
  simp only [wipe_get, if_neg hk.2] at this
  exact this
theorem tgs_cons {T : Ty ι} {Z : HTy P} {put : L → ι → L1} {put' : L1 → P → L2'} {vs us : List Nat} (h1 : Tgt X tg T Gl G1 put vs) (h2 : Tgts X tgs Z G1 G2 put' us)
    (hs : (assignEach (tg :: tgs) X.env).map (·.2) = assign tg X.env :: (assignEach tgs X.env).map (·.2) := by rfl) : Tgts X (tg :: tgs) (hcons T Z) Gl G2 (pP put put') (vs ++ us) := by
  obtain ⟨g, hg, h1⟩ := h1
  obtain ⟨gs, hgs, h2⟩ := h2
  unfold pP
  refine ⟨_, pgs_cons hg hgs hs, fun l F σ H A ws x Q gl s ⟨v, r, e, r1, r2⟩ h => ⟨v, r, e, h1 l F σ H A v x.1 _ gl s r1 fun σ1 A1 g1 b1 w1 => h2 _ F σ1 H A1 r x.2 _ g1 s r2 fun σ2 A2 g2 b2 w2 => ?_⟩⟩
  exact h σ2 A2 g2 (b2.trans b1) ((wipe_appR w2).trans (wipe_app w1))
theorem tgt_H {Z : HTy P} {put : L → P → L1} {vs : List Nat} {k' n : Nat} (hc : X.calm = true) (h : Tgts X tgs Z Gl G1 put vs) (hZ : Z.n = n) (mk : ∀ g, PGs X tgs g → PG X (.Tuple tgs k' pos) (gTup X.K n g)) : Tgt X (.Tuple tgs k' pos) (tH Z) Gl G1 put vs := by
  obtain ⟨g, hg, h⟩ := h
  exact ⟨_, mk g hg, fun l F σ H A v x Q gl s ⟨a, us, ev, q, r⟩ hq => ⟨a, us, ev, SqT.of (s _ _ q), (Z.len r).trans hZ, h l F σ H A us x Q gl s r hq⟩⟩
/-- the same target for another view of what is stored -/
@[irreducible] def pC (put : L → ι → L1) (c : β → ι) : L → β → L1 := fun l y => put l (c y)
theorem pC_eq (put : L → ι → L1) (c : β → ι) (l : L) (y : β) : pC put c l y = put l (c y) := by unfold pC; rfl
theorem Tgt.conv {T : Ty ι} {T' : Ty β} {put : L → ι → L1} {vs : List Nat} (c : β → ι) (im : ∀ F v y, T'.R F v y → T.R F v (c y)) (h : Tgt X tg T Gl G1 put vs) : Tgt X tg T' Gl G1 (pC put c) vs := by
  obtain ⟨g, hg, h⟩ := h
  unfold pC
  exact ⟨g, hg, fun l F σ H A v x Q gl s r hq => h l F σ H A v (c x) Q gl s (im _ _ _ r) hq⟩
def c3 (x : α × β × γ) : α × β × γ × Unit := (x.1, x.2.1, x.2.2, ())
def c2 (x : α × β) : α × β × Unit := (x.1, x.2, ())
theorem c3_eq (x : α) (y : β) (z : γ) : c3 (x, y, z) = (x, y, z, ()) := rfl
theorem c2_eq (x : α) (y : β) : c2 (x, y) = (x, y, ()) := rfl
theorem tgt_3 {T : Ty α} {U : Ty β} {V' : Ty γ} {put : L → α × β × γ × Unit → L1} {vs : List Nat} (h : Tgt X tg (tH (hcons T (hcons U (hcons V' hnil)))) Gl G1 put vs) : Tgt X tg (tP3 T U V') Gl G1 (pC put c3) vs :=
  Tgt.conv (T := tH (hcons T (hcons U (hcons V' hnil)))) (T' := tP3 T U V') c3 (fun F v y ⟨a, v1, v2, v3, e, q, r1, r2, r3⟩ => ⟨a, _, e, q, v1, _, rfl, r1, v2, _, rfl, r2, v3, [], rfl, r3, rfl⟩) h
theorem tgt_2 {T : Ty α} {U : Ty β} {put : L → α × β × Unit → L1} {vs : List Nat} (h : Tgt X tg (tH (hcons T (hcons U hnil))) Gl G1 put vs) : Tgt X tg (tP2 T U) Gl G1 (pC put c2) vs :=
  Tgt.conv (T := tH (hcons T (hcons U hnil))) (T' := tP2 T U) c2 (fun F v y ⟨a, v1, v2, e, q, r1, r2⟩ => ⟨a, _, e, q, v1, _, rfl, r1, v2, [], rfl, r2, rfl⟩) h
end

/-! ### slices -/
def mCut (xs : List α) (lo hi : Option Int) : List α := (xs.drop (HT.sIx xs.length 0 lo)).take (HT.sIx xs.length xs.length hi - HT.sIx xs.length 0 lo)
theorem All2.cut {R : V → α → Prop} {vs : List V} {xs : List α} (h : All2 R vs xs) (lo hi : Option Int) : All2 R (cutV vs lo hi) (mCut xs lo hi) := by
  unfold cutV mCut
  rw [h.length]
  exact All2.take _ (All2.drop _ h)
theorem cut_whole {xs : List α} {lo hi : Option Int} (h : HT.sIx xs.length 0 lo = 0 ∧ HT.sIx xs.length xs.length hi = xs.length) : mCut xs lo hi = xs := by
  unfold mCut
  rw [h.1, h.2]
  simp
/-- a part of a slice -/
def OM (XR : XRel) (W : WX) (X : Cx) {S : Type} (p : Bool) (G : Ctx S) (o : Option Expr) (f : S → Res (Option Int × S)) : Prop :=
  ∃ t, PO X o t ∧ ∀ s F σ H A (Q : Option Int → Hp → Prop), G.P s F σ A → Holds F H A → (match f s with
    | .ok (x, s') => ∀ F' H' A', G.P s' F' σ A' → Ext F H A F' H' A' → (p = true → A' = A ∧ s' = s) → Q x H'
    | .er ex => ∀ cls oe F' H' A', XR ex cls oe H' → Ext F H A F' H' A' → W cls oe σ H'
    | .bad => False) → t σ H Q
theorem om_none : OM XR W X true G none (kC none) := ⟨_, po_none, fun s F σ H A Q g k w => w F H A g (Ext.refl k) fun _ => ⟨rfl, rfl⟩⟩
theorem om_some {f : S → Res (Int × S)} (h : EM XR W X p G e (fz tInt) f) : OM XR W X p G (some e) (kF some f) := by
  obtain ⟨t, ht, h⟩ := h
  refine ⟨_, po_some ht, fun s F σ H A Q g k w => h s F σ H A _ g k ?_⟩
  unfold kF at w
  cases q : f s with
  | bad => rw [q] at w; exact w
  | er ex => rw [q] at w; exact w
  | ok xs =>
    obtain ⟨x, s1⟩ := xs
    rw [q] at w
    rintro v F1 H1 B A1 ⟨rB, r1⟩ g1 e1 q1
    subst rB
    exact ⟨x, r1, w F1 H1 A1 g1 e1 q1⟩
def kCut (f : S → Res (List α × S)) (lo hi : S → Res (Option Int × S)) : S → Res (List α × S) := fun s => (f s).bind fun r => (lo r.2).bind fun l => (hi l.2).bind fun h => .ok (mCut r.1 l.1 h.1, h.2)
theorem em_slice {r : V → Option Int → Option Int → Hp → VK → Prop} {T : Ty (List α)} {R : Rl (List α)} {f : S → Res (List α × S)} {flo fhi : S → Res (Option Int × S)} {lo hi : Option Expr} {pp : Pos} (hr : SlR X r)
    (ho : ∀ F H v x l h (Q : VK), T.R F v x → Same F H → (∀ w F' H' B, R.P F' w (mCut x l h) B → Ext F H [] F' H' B → Q w H') → r v l h H Q)
    (ha : EM XR W X p1 G a (fz T) f) (hlo : OM XR W X p2 G lo flo) (hhi : OM XR W X p3 G hi fhi) : EM XR W X (p1 && (p2 && p3)) G (.Subscript a (.Slice lo hi none pp) pos) R (kCut f flo fhi) := by
  obtain ⟨t, ht, ha⟩ := ha
  obtain ⟨tl, htl, hl⟩ := hlo
  obtain ⟨th, hth, hh⟩ := hhi
  refine ⟨_, pe_slice hr ht htl hth, fun s F σ H A Q g k w => ha s F σ H A _ g k (WPE.bind w fun x s1 v F1 H1 B A1 ⟨rB, r1⟩ g1 e1 q1 w => ?_)⟩
  subst rB
  refine hl s1 F1 σ H1 A1 _ g1 e1.holds ?_
  dsimp only at w
  cases q : flo s1 with
  | bad => rw [q] at w; exact w
  | er ex => rw [q] at w; exact fun cls oe F' H' A' h1 h2 => w cls oe F' H' A' h1 (e1.trans h2)
  | ok ys =>
    obtain ⟨y, s2⟩ := ys
    rw [q] at w
    intro F2 H2 A2 g2 e2 q2
    refine hh s2 F2 σ H2 A2 _ g2 e2.holds ?_
    simp only [Res.bind_ok] at w
    cases q' : fhi s2 with
    | bad => rw [q'] at w; exact w
    | er ex => rw [q'] at w; exact fun cls oe F' H' A' h1 h2 => w cls oe F' H' A' h1 ((e1.trans e2).trans h2)
    | ok zs =>
      obtain ⟨z, s3⟩ := zs
      rw [q'] at w
      intro F3 H3 A3 g3 e3 q3
      refine ho F3 H3 v x y z Q (T.mono r1 (e2.fz.trans e3.fz)) e3.holds.fz fun w' F' H' B hr ex => ?_
      have e4 := (e1.trans e2).trans e3
      exact w w' F' H' B A3 hr (G.mono g3 ex.fz) (e4.trans (ext_nil e3.holds ex)) fun hp => by
        simp only [Bool.and_eq_true] at hp
        exact ⟨(q3 hp.2.2).1.trans ((q2 hp.2.1).1.trans (q1 hp.1).1), (q3 hp.2.2).2.trans ((q2 hp.2.1).2.trans (q1 hp.1).2)⟩
section
variable {T : Ty α} {f : S → Res (List α × S)} {flo fhi : S → Res (Option Int × S)} {lo hi : Option Expr} {pp : Pos}
theorem em_cutL (ha : EM XR W X p1 G a (fz (tLst T)) f) (hlo : OM XR W X p2 G lo flo) (hhi : OM XR W X p3 G hi fhi) : EM XR W X (p1 && (p2 && p3)) G (.Subscript a (.Slice lo hi none pp) pos) (oL T) (kCut f flo fhi) :=
  em_slice (T := tLst T) sl_list (fun F H v x l h Q ⟨a, vs, ev, q, r⟩ s hq => ⟨a, vs, ev, SqL.of (s _ _ q), fun p n => lay_list (r.cut l h) s n hq⟩) ha hlo hhi
theorem em_cutT (ha : EM XR W X p1 G a (fz (tTup T)) f) (hlo : OM XR W X p2 G lo flo) (hhi : OM XR W X p3 G hi fhi) : EM XR W X (p1 && (p2 && p3)) G (.Subscript a (.Slice lo hi none pp) pos) (fz (tTup T)) (kCut f flo fhi) :=
  em_slice (T := tTup T) sl_tupA (fun F H v x l h Q ⟨a, vs, ev, q, r⟩ s hq => ⟨a, vs, ev, SqT.of (s _ _ q), fun hw => by
    rw [r.length] at hw
    have e := cut_whole hw
    rw [e] at hq
    exact hq _ F H [] ⟨rfl, a, vs, rfl, q, r⟩ (Ext.refl (holds_nil s)), fun _ p n => lay_tup (r.cut l h) s n hq⟩) ha hlo hhi
end

/-! ### tuples joined -/
theorem em_catT {T : Ty α} {fa fb : S → Res (List α × S)} (ha : EM XR W X p1 G a (fz (tTup T)) fa) (hb : EM XR W X p2 G b (fz (tTup T)) fb) : EM XR W X (p1 && p2) G (.BinOp a .Add b pos) (fz (tTup T)) (kB mCat fa fb) :=
  em_op2 (T1 := tTup T) (T2 := tTup T) (g := mCat) (fun _ _ => pe_op op_catA) (fun F H v u x y Q ⟨a, vs, ev, q, r⟩ ⟨b, us, eu, q', r'⟩ s h nb _ => by
    unfold mCat at h nb
    by_cases hz : x.length + y.length ≤ sizeLine
    · rw [if_pos hz] at h
      refine ⟨a, b, vs, us, ev, eu, SqT.of (s _ _ q), SqT.of (s _ _ q'), by rw [r.length, r'.length]; exact hz, fun hx => ?_, fun _ hy => ?_, fun _ _ p n => lay_tup (r.append r') s n (h _ rfl)⟩
      · subst hx
        have hx : x = [] := List.eq_nil_of_length_eq_zero (r.length.symm)
        subst hx
        exact h _ rfl _ F H [] ⟨rfl, b, us, rfl, q', r'⟩ (Ext.refl (holds_nil s))
      · subst hy
        have hy : y = [] := List.eq_nil_of_length_eq_zero (r'.length.symm)
        subst hy
        exact h _ rfl _ F H [] ⟨rfl, a, vs, rfl, q, by rw [List.append_nil]; exact r⟩ (Ext.refl (holds_nil s))
    · rw [if_neg hz] at nb; exact absurd rfl nb) (fun x y ex => by unfold mCat; exact ifne) ha hb

/-! ### xs[i] += e -/
theorem pget_list : PGet X (rIxL X.K) := by
  intro pins s σ H o i ov iv Q I ro ri h
  obtain ⟨p, xs, n, z, rfl, rfl, hq, he, hQ⟩ := h
  cases ro
  obtain ⟨tk, rfl⟩ := ri
  obtain ⟨us, rr, pl, hsz⟩ := I.list hq
  obtain ⟨j, e1, e2, e3, e4, e5⟩ := atI_get he
  obtain ⟨u, eu, ru⟩ := rr.get e2
  have hl := rr.length
  have hb := line63
  by_cases hn : 0 ≤ n
  · have ej : n.toNat = j := by
      have := e1
      rw [seqIndex_of hn e5] at this
      injection this
    exact wpAny_getItem_list pl.isList hn (by omega) (by rw [ej]; simpa using eu) ⟨z, H, I, ru, hQ⟩
  · have ej : (n + (us.toArray.size : Int)).toNat = j := by
      have := e1
      rw [seqIndex_neg (by omega) e4] at this
      rw [List.size_toArray, ← hl]
      injection this
    exact wpAny_getItem_list_neg pl.isList (by omega) (by rw [List.size_toArray]; omega) (by omega) (by rw [ej]; simpa using eu) ⟨z, H, I, ru, hQ⟩
def kAugIx (get : S → List Int) (put : S → List Int → S) (op : Int → Int → Int) (fi f : S → Res (Int × S)) : S → Out S L ρ := fun s => (fi s).out fun q => (mIx (get q.2) q.1).out fun x => (f q.2).out fun r => (mSet (get r.2) q.1 (op x r.1)).out fun z => .nx (put r.2 z)
theorem sm_augIx {op : Operator} {g : Int → Int → Int} {f fi : S → Res (Int × S)} {i : Nat} {x : Str} {pp sp : Pos} {get : S → List Int} {put : S → List Int → S} {sl : Sl (List Int)} [os : OL tInt sl] (hop : PIp X op (ipI g)) (hN : X.N[i]? = some x) (hv : Vis X.env.scope x) (at_ : At G i sl get sl G put) (h : EM XR W X p1 G e (fz tInt) f) (hi : EM XR W X p2 G b (fz tInt) fi)
    (mk : ∀ te tn ti, PE X e te → PE X (.Name x pp) tn → PE X b ti → PS X (.AugAssign (.Subscript (.Name x pp) b sp) op e pos) (tAugS tn ti te (rIxL X.K) (ipI g) rSetL))
    (hd : (x == ("__debug__" : Str)) = false := by decide) (hcd : (x == ("__classdict__" : Str)) = false := by decide) :
    SM XR W X Rr Gb G (.AugAssign (.Subscript (.Name x pp) b sp) op e pos) G (kAugIx get put g fi f) := by
  obtain ⟨t, ht, h⟩ := h
  obtain ⟨u, hu, hi⟩ := hi
  refine ⟨_, mk _ _ _ ht (pe_var hN hv hd hcd) hu, fun s F σ H A D gg k w => ?_⟩
  obtain ⟨o, L0, B0, R0, e0, _, hsl0, _⟩ := at_.at_ s F σ A gg
  obtain ⟨a, vs0, rfl, _, _, _⟩ := os.opn hsl0
  refine ⟨.ref a, e0, hi s F σ H A _ gg k (WPE.bindS (p1 := p2) w fun n s1 v1 F1 H1 B1 A1 ⟨rB, r1⟩ g1 x1 w => ?_)⟩
  subst rB
  obtain ⟨o, L1, B1, R1, e1, q1, hsl1, _⟩ := at_.at_ s1 F1 σ A1 g1
  obtain ⟨a', vs1, rfl, b1, rr1, _⟩ := os.opn hsl1
  rw [e0] at e1
  cases e1
  subst b1
  have hl1 : H1 a = some (.lst vs1) := (x1.holds.ow (a, .lst vs1) (by rw [q1]; simp)).2
  dsimp only at w
  unfold mIx at w
  cases qi : atI (get s1) n with
  | none => rw [qi] at w; exact w.elim
  | some y =>
    rw [qi] at w
    obtain ⟨vy, hy, ry⟩ := rr1.atI qi
    have hvy : vy = .int y := ry
    refine ⟨a, vs1, n, vy, rfl, r1, SqL.of hl1, hy, h s1 F1 σ H1 A1 _ g1 x1.holds (WPE.bindS (p1 := p1) (w.later x1) fun m s2 v2 F2 H2 B2 A2 ⟨rB, r2⟩ g2 x2 w => ?_)⟩
    subst rB
    obtain ⟨o, L2, B2, R2, e2, q2, hsl2, st⟩ := at_.at_ s2 F2 σ A2 g2
    obtain ⟨a', vs2, rfl, b2, rr2, cl⟩ := os.opn hsl2
    rw [e0] at e2
    cases e2
    subst b2 q2
    have hl2 : H2 a = some (.lst vs2) := (x2.holds.ow (a, .lst vs2) (by simp)).2
    refine ⟨y, m, hvy, r2, ?_⟩
    dsimp only at w
    unfold mSet at w
    cases qs : ixN (get s2).length n with
    | none => rw [qs] at w; exact w.elim
    | some j =>
      rw [qs] at w
      refine ⟨a, vs2, n, j, rfl, r1, hl2, by rw [rr2.length]; exact qs, ?_⟩
      have hw : Ext F2 H2 [(a, .lst vs2)] F2 (upd H2 a (.lst (vs2.set j (.int (g y m))))) [(a, .lst (vs2.set j (.int (g y m))))] := Ext.write (x2.holds.sub ((List.sublist_append_left _ _).trans (List.sublist_append_right _ _)))
      have gg' := st F2 (some (.ref a)) ((get s2).set j (g y m)) [(a, .lst (vs2.set j (.int (g y m))))] (Same.refl _) (cl F2 _ _ (rr2.set (show tInt.R F2 (.int (g y m)) (g y m) from rfl) j))
      rw [set_same e0] at gg'
      exact w F2 σ _ _ gg' (x2.trans (Ext.frameMid (L := L2) (A := [(a, .lst vs2)]) (R := R2) x2.holds hw))
end
end TC
/-! exceptions of own classes, raised and caught; statements never reached; the number of different ints -/
namespace TC
open PySem PySem.Spec PyProof.Rows L2

/-! ### how an exception lies -/
def exFld (c : String) : Str := if c = "ProtocolSyntaxError" then "line" else "position"
def XRm (mg : Str → Option Value) : XRel := fun ex cls oe H => ∃ C, mg (Str.ofString ex.cls) = some (.ref C) ∧ cls = .ref C ∧ match ex.val with
  | none => oe = none
  | some n => ∃ d, oe = some d ∧ H d = some (.xd [(exFld ex.cls, .int n)])
/-- a class that is raised with a text -/
structure ExTx (K : PySem.W.Frag) (mg : Str → Option Value) (c : String) (C : Addr) : Prop where
  g : mg (Str.ofString c) = some (.ref C)
  x : PySem.W.excIn K C [.type "ValueError", .type "Exception", .type "BaseException", .type "object"] "ValueError.__new__" = true
  k : PySem.W.keepIn K (.ref C) = true
  b : PySem.W.subIn K (.ref C) (.type "BaseException") = some true
  t : PySem.W.typeIn K (.ref C) = some (.type "type")
  e : PySem.W.exmOne K (.ref C) (.ref C) = some true
/-- a class that is raised with a number -/
structure ExNo (P : Program) (w : World) (K : PySem.W.Frag) (mg : Str → Option Value) (base : Heap) (c : String) (C f : Addr) : Prop where
  g : mg (Str.ofString c) = some (.ref C)
  o : OexC K C
  i : PySem.W.findIn K (.ref C) "__init__" = some (some (.ref f))
  t : PySem.W.typeIn K (.ref f) = some (.type "function")
  n : PySem.W.findIn K (.ref C) (exFld c) = some none
  x : XfC K C
  e : PySem.W.exmOne K (.ref C) (.ref C) = some true
  ok : ∃ (fd : FuncData) (ps : List Str), Binds K fd ps [] ∧ FnOk P w K mg base (L2.CX P w) 1 f fd ps (fun vs H Q _ => ∃ a n, vs = [.ref a, .int n] ∧ H a = some (exo a C none) ∧ ∀ dx, H dx = none → dx ≠ a → Q .non (upd (upd H dx (exd dx [(exFld c, .int n)])) a (exo a C (some dx))))
/-- such an __init__ -/
def initB (f : Str) (q1 q2 q3 q4 : Pos) : List Stmt := [.Assign [.Attribute (.Name "self" q1) f q2] (.Name f q3) q4]
section
variable {P : Program} {w : World} {K : PySem.W.Frag} {mg : Str → Option Value} {base : Heap} {qual g : Str} {st : Stmt} {f : Addr} {fd : FuncData} {C : Addr}
theorem ok_exc (F : Fun K "__init__" qual st f fd) (S : FnScope ["self", g] ["self", g] (defScope st)) (hb : ∃ q1 q2 q3 q4, defBody st = initB g q1 q2 q3 q4) (o : OexC K C) (n : PySem.W.findIn K (.ref C) g = some none)
    (hv : (g == ("__debug__" : Str)) = false := by decide) (hv2 : (g == ("__classdict__" : Str)) = false := by decide)
    (v1 : Vis (defScope st) "self" := by exact .inl rfl) (v2 : Vis (defScope st) g := by exact .inl rfl) :
    FnOk P w K mg base (L2.CX P w) 1 f fd ["self", g] (fun vs H Q _ => ∃ a n, vs = [.ref a, .int n] ∧ H a = some (exo a C none) ∧ ∀ dx, H dx = none → dx ≠ a → Q .non (upd (upd H dx (exd dx [(g, .int n)])) a (exo a C (some dx)))) := by
  refine F.okX S (fun vs H Q E ⟨a, n, e, _⟩ => by rw [e]; rfl) (fun cdv A outer s H vs Q E hr ⟨a, m, e, h, hq⟩ => ?_)
  obtain ⟨q1, q2, q3, q4, hb⟩ := hb
  rw [hb]
  subst e
  refine ⟨_, pss_one (ps_ost (pe_var (i := 0) rfl v1 (by decide) (by decide)) (pe_var (i := 1) rfl v2 hv hv2)), ?_⟩
  exact ⟨.int m, rfl, .ref a, rfl, a, C, rfl, o, n, .inl ⟨h, fun dx h1 h2 => hq dx h1 h2⟩⟩
end

section
variable {XR : XRel} {W : WX} {X : Cx} {S S' S2 L ρ : Type} {G : Ctx S} {G' : Ctx S'} {α β γ ι : Type} {e a b : Expr} {es : List Expr} {pos : Pos} {p p1 p2 p3 : Bool} {Rr : Rl ρ} {Gb : Ctx L} {st : Stmt}
/-- a statement that is never reached -/
def kBad : S → Out S' L ρ := fun _ => .bad
theorem sm_never : SM XR W X Rr Gb G st G' (kBad : S → Out S' L ρ) := ⟨fun _ _ _ => False, ⟨fun pins s σ H D I h => h.elim⟩, fun s F σ H A D g k w => w⟩
/-- raise C('..') -/
def kEr (c : String) : S → Out S' L ρ := fun _ => .er ⟨c, none⟩
theorem sm_raiseT {mg : Str → Option Value} {c : String} {C : Addr} {x m : Str} {j : Nat} {pp p2 pos' : Pos} (hc : X.calm = true) (tk : Takes X W) (T : ExTx X.K X.mg c C) (hx : x = Str.ofString c) (hmg : mg = X.mg) (hg : L2.Gl X x)
    (hdb : (x == ("__debug__" : Str)) = false := by decide) : SM (XRm mg) W X Rr Gb G (.Raise (some (.Call (.Name x pp) [.Constant (.str m) j p2] [] pos)) none pos') G' (kEr c : S → Out S' L ρ) := by
  subst hx hmg
  refine ⟨_, ps_raise hc tk (pmk_own PySem.F.excBase_ValueError T.x T.g T.k (raises_own T.b T.t) hg hdb), fun s F σ H A D g k w => ?_⟩
  exact w (.ref C) none F H σ A ⟨C, T.g, rfl, rfl⟩ (Ext.refl k)
/-- raise C(e), e an int -/
def kErN (c : String) (f : S → Res (Int × S)) : S → Out S' L ρ := fun s => (f s).out fun r => .er ⟨c, some r.1⟩
theorem upd_del {H : Hp} {a d : Addr} {o u v : HO} (ha : H a = none) (hd : H d = none) (ne : d ≠ a) : upd (del (upd (upd (upd H a o) d u) a v) a) d w = upd H d w := by
  funext b
  by_cases h1 : b = d
  · subst h1; rw [upd_same, upd_same]
  · rw [upd_ne h1, upd_ne h1]
    by_cases h2 : b = a
    · subst h2; rw [del_same, ha]
    · rw [del_ne h2, upd_ne h2, upd_ne h1, upd_ne h2]
theorem sm_raiseN {mg : Str → Option Value} {c : String} {C fI : Addr} {x : Str} {f : S → Res (Int × S)} {pp pos' : Pos} {k' : Nat} (hc : X.calm = true) (tk : Takes X W) (T : ExNo X.prog X.w X.K X.mg X.base c C fI) (hr : Room k' X.A) (hk : 2 ≤ k') (hx : x = Str.ofString c) (hmg : mg = X.mg) (hg : L2.Gl X x) (h : EM (XRm mg) W X p G e (fz tInt) f)
    (hdb : (x == ("__debug__" : Str)) = false := by decide) (he : starEach (e :: []) X.env = (false, eval e X.env) :: starEach [] X.env := by rfl) (hpl : (backTo pos (starEach [] X.env)).any (·.1) = false := by rfl) :
    SM (XRm mg) W X Rr Gb G (.Raise (some (.Call (.Name x pp) [e] [] pos)) none pos') G' (kErN c f : S → Out S' L ρ) := by
  subst hx hmg
  obtain ⟨t, ht, h⟩ := h
  obtain ⟨fd, ps, bd, ok⟩ := T.ok
  refine ⟨_, ps_raise hc tk (pmk_oex T.o T.i T.t ok (hr.mono hk) bd .nil (passes_call tk fun _ _ _ _ q => q.elim) hg T.g (pa_cons ht pa_nil he) hdb he hpl), fun s F σ H A D g k w => h s F σ H A _ g k (WPE.bindS (p1 := p) w fun n s1 v F1 H1 B A1 ⟨rB, r1⟩ g1 e1 w => ?_)⟩
  subst rB
  have r1 : v = .int n := r1
  subst r1
  refine ⟨by show 1 ≤ 1000; decide, fun a ha => ⟨a, n, rfl, upd_same, fun dx hdx ne => ⟨rfl, dx, [(exFld c, .int n)], upd_same, ?_, ?_, ?_⟩⟩⟩
  · rw [upd_ne ne, upd_same]
  · rw [upd_ne ne] at hdx; exact hdx
  · rw [upd_ne ne] at hdx
    rw [upd_del ha hdx ne]
    have ex : Ext F1 H1 A1 F1 (upd H1 dx (.xd [(exFld c, .int n)])) A1 := (Ext.newO e1.holds hdx).sub (List.sublist_cons_self _ _)
    exact w (.ref C) (some dx) F1 _ σ A1 ⟨C, T.g, rfl, dx, rfl, upd_same⟩ (e1.trans ex)

/-! ### try: .. except C: .. -/
def noEr : Out S L ρ → Out S L ρ
  | .er _ => .bad
  | .nx s => .nx s
  | .rt r => .rt r
  | .bk l => .bk l
  | .ct l => .ct l
  | .bad => .bad
theorem WPS.noEr {F H : Hp} {A : Ow} {D : Ends} {o : Out S' L ρ} (w : WPS XR W Rr Gb G' F H A D (noEr o)) : WPS XR W0 Rr Gb G' F H A D o := by
  cases o with
  | er ex => exact w.elim
  | nx s => exact w
  | rt r => exact w
  | bk l => exact w
  | ct l => exact w
  | bad => exact w
def kTry (c : String) (fb : S → Out S' L ρ) (fs : Option Int → Out S' L ρ) : S → Out S' L ρ := fun s => match fb s with
  | .er ex => if ex.cls = c then noEr (fs ex.val) else .bad
  | .nx s => .nx s
  | .rt r => .rt r
  | .bk l => .bk l
  | .ct l => .ct l
  | .bad => .bad
/-- where nothing is known of the slots -/
def gtop : Ctx Unit := ⟨fun _ _ _ _ => True, fun _ _ => trivial⟩
theorem takes_len (tk : Takes X W) : Takes X (fun cls d σ H => σ.length = X.N.length → W cls d σ H) := fun u s' ⟨a, B, sI, pins, σ, H, cls, d, e, I, nb, up, sky, na, os, ag, w⟩ => tk u s' ⟨a, B, sI, pins, σ, H, cls, d, e, I, nb, up, sky, na, os, ag, w I.len⟩
theorem all_ss {body : List Stmt} {fb : S → Out S' L ρ} (hb : ∀ (W : WX) (pn : List (Addr × Obj)) (xe : Value → Shared → Prop), Takes (X.tr pn xe) W → PassesOwn (model X.prog X.w) X.A X.env xe → SS XR W (X.tr pn xe) Rr Gb G body G' fb) :
    ∃ tb : WX → TS, (∀ (W : WX) (pn : List (Addr × Obj)) (xe : Value → Shared → Prop), Takes (X.tr pn xe) W → PassesOwn (model X.prog X.w) X.A X.env xe → PSs (X.tr pn xe) body (tb W)) ∧ ∀ W s F σ H A D, G.P s F σ A → Holds F H A → WPS XR W Rr Gb G' F H A D (fb s) → tb W D σ H := by
  refine ⟨fun W D σ H => ∃ s F A, G.P s F σ A ∧ Holds F H A ∧ WPS XR W Rr Gb G' F H A D (fb s), fun W pn xe tk hp => ?_, fun W s F σ H A D g k w => ⟨s, F, A, g, k, w⟩⟩
  obtain ⟨t, ht, h⟩ := hb W pn xe tk hp
  exact ⟨fun pins s σ H D I ⟨s', F, A, g, k, w⟩ => ht.run pins s σ H D I (h s' F σ H A D g k w)⟩
section
variable {mg : Str → Option Value} {c : String} {C : Addr} {x : Str} {np pos2 : Pos} {body suite : List Stmt} {b₀ : Stmt} {fb : S → Out S' L ρ}
theorem sm_tryOnly {fs : Unit → Out S' L ρ} (hs : X.stack = X.env :: X.outer) (hf : X.env.frame = some X.env.locals) (tk : Takes X W) (g : X.mg (Str.ofString c) = some (.ref C)) (ee : PySem.W.exmOne X.K (.ref C) (.ref C) = some true) (hx : x = Str.ofString c) (hmg : mg = X.mg) (hg : L2.Gl X x) (hdb : (x == ("__debug__" : Str)) = false)
    (hb : ∀ (W : WX) (pn : List (Addr × Obj)) (xe : Value → Shared → Prop), Takes (X.tr pn xe) W → PassesOwn (model X.prog X.w) X.A X.env xe → SS (XRm mg) W (X.tr pn xe) Rr Gb G body G' fb)
    (hsu : ∀ (a : Addr) (pn : List (Addr × Obj)), SS (XRm mg) W0 (X.suite a pn) Rr Gb gtop (b₀ :: suite) G' fs) :
    SM (XRm mg) W X Rr Gb G (.Try body [.ExceptHandler (some (.Name x np)) none (b₀ :: suite) pos2] [] [] pos) G' (kTry c fb fun _ => fs ()) := by
  subst hx hmg
  obtain ⟨tb, h1, h2⟩ := all_ss hb
  have hsu' : ∃ ts : TS, (∀ (a : Addr) (pn : List (Addr × Obj)), PSs (X.suite a pn) (b₀ :: suite) ts) ∧ ∀ F σ H A D, Holds F H A → WPS (XRm X.mg) W0 Rr Gb G' F H A D (fs ()) → ts D σ H :=
    ⟨fun D σ H => ∃ F A, Holds F H A ∧ WPS (XRm X.mg) W0 Rr Gb G' F H A D (fs ()), fun a pn => by
      obtain ⟨t, ht, h⟩ := hsu a pn
      exact ⟨fun pins s σ H D I ⟨F, A, k, w⟩ => ht.run pins s σ H D I (h () F σ H A D trivial k w)⟩, fun F σ H A D k w => ⟨F, A, k, w⟩⟩
  obtain ⟨ts, h3, h4⟩ := hsu'
  refine ⟨_, ps_try_only (ts := fun _ _ _ => ts) hs hf ⟨hg, hdb, .inl g⟩ tk h1 (fun a oe cls d pn _ _ => h3 a _), fun s F σ H A D gg k w => h2 _ s F σ H A D gg k ?_⟩
  unfold kTry at w
  cases q : fb s with
  | nx s1 => rw [q] at w; exact w
  | rt r => rw [q] at w; exact w
  | bk l => rw [q] at w; exact w
  | ct l => rw [q] at w; exact w
  | bad => rw [q] at w; exact w
  | er ex =>
    rw [q] at w
    dsimp only at w
    intro cls oe F' H' σ' A' ⟨C', m, ec, _⟩ e1
    by_cases hh : ex.cls = c
    · rw [if_pos hh] at w
      rw [hh, g] at m
      cases m
      subst ec
      refine ⟨true, ee, fun _ a _ => h4 F' σ' H' A' D e1.holds ?_, fun z => by cases z⟩
      exact (w.later e1).noEr
    · rw [if_neg hh] at w; exact w.elim

/-- except C as e: return ('..', e.position) -/
theorem sm_tryStop {i k2 j : Nat} {y m fl : Str} {fI : Addr} {py ps pa pt pr : Pos} {inj : Int → ρ} (hs : X.stack = X.env :: X.outer) (hf : X.env.frame = some X.env.locals) (hN : X.N.Nodup) (hi : X.N[i]? = some y) (hln : X.env.kindOf y = some .local) (hv : Vis X.env.scope y) (tk : Takes X W) (T : ExNo X.prog X.w X.K X.mg X.base c C fI) (hx : x = Str.ofString c) (hfl : fl = exFld c) (hmg : mg = X.mg) (hg : L2.Gl X x) (hdb : (x == ("__debug__" : Str)) = false)
    (hb : ∀ (W : WX) (pn : List (Addr × Obj)) (xe : Value → Shared → Prop), Takes (X.tr pn xe) W → PassesOwn (model X.prog X.w) X.A X.env xe → SS (XRm mg) W (X.tr pn xe) Rr Gb G body G' fb)
    (hR : ∀ n F q, F q = some (.tup [.str m, .int n]) → Rr.P F (.ref q) (inj n) [])
    (hb2 : attributeBase (.Name y py) fl X.env (eval (.Name y py) X.env) = eval (.Name y py) X.env)
    (h1s : starEach [.Constant (.str m) j ps, .Attribute (.Name y py) fl pa] X.env = (false, eval (.Constant (.str m) j ps) X.env) :: starEach [.Attribute (.Name y py) fl pa] X.env)
    (h2s : starEach [.Attribute (.Name y py) fl pa] X.env = (false, eval (.Attribute (.Name y py) fl pa) X.env) :: starEach [] X.env)
    (hd : (y == ("__debug__" : Str)) = false := by decide) (hcd : (y == ("__classdict__" : Str)) = false := by decide) :
    SM (XRm mg) W X Rr Gb G (.Try body [.ExceptHandler (some (.Name x np)) (some y) [.Return (some (.Tuple [.Constant (.str m) j ps, .Attribute (.Name y py) fl pa] k2 pt)) pr] pos2] [] [] pos) G' (kTry c fb fun v => match v with | some n => .rt (inj n) | none => .bad) := by
  subst hx hmg hfl
  obtain ⟨tb, h1, h2⟩ := all_ss hb
  have hi2 : i < X.N.length := (List.getElem?_eq_some_iff.mp hi).1
  refine ⟨_, ps_try_as (i := i) (c := .ref C) (tb := fun W' => tb fun cls d σ H => σ.length = X.N.length → W' cls d σ H) hs hf hN hi hln ⟨hg, hdb, .inl T.g⟩ tk (fun W' pn xe tk' hp => h1 _ pn xe (takes_len tk') hp) (fun a oe cls d pn hz hfv => pss_one (ps_ret (pe_tup (pa_cons pe_str (pa_cons (pe_xf T.x T.n hz hfv (pe_var (X := X.suite a ((a, oe) :: pn)) hi hv hd hcd) hb2) pa_nil h2s) h1s)))), fun s F σ H A D gg k w => h2 _ s F σ H A D gg k ?_⟩
  unfold kTry at w
  cases q : fb s with
  | nx s1 => rw [q] at w; exact w
  | rt r => rw [q] at w; exact w
  | bk l => rw [q] at w; exact w
  | ct l => rw [q] at w; exact w
  | bad => rw [q] at w; exact w
  | er ex =>
    rw [q] at w
    dsimp only at w
    intro cls oe F' H' σ' A' ⟨C', g, ec, xx⟩ e1 hlen
    by_cases hh : ex.cls = c
    · rw [if_pos hh] at w
      rw [hh, T.g] at g
      cases g
      subst ec
      cases hv : ex.val with
      | none => rw [hv] at w; exact w.elim
      | some n =>
        rw [hv] at w xx
        obtain ⟨dd, ed, hdd⟩ := xx
        refine ⟨true, T.e, fun _ a na => ?_, fun z => by cases z⟩
        have hsl : (σ'.set i (some (V.ref a)))[i]? = some (some (V.ref a)) := List.getElem?_set_self (by rw [hlen]; exact hi2)
        refine ⟨.ref a, hsl, rfl, rfl, dd, _, .int n, ed, by rw [hh] at hdd; exact hdd, by simp [List.lookup], by show 2 ≤ sizeLine; decide, fun pn hpn => ?_⟩
        have ex : Ext F' H' A' (upd F' pn (.tup [.str m, .int n])) (upd H' pn (.tup [.str m, .int n])) A' := Ext.newF e1.holds hpn
        exact w _ _ _ [] (hR n _ pn upd_same) ((e1.trans ex).sub (List.nil_sublist _))
    · rw [if_neg hh] at w; exact w.elim
end
end
end TC
/-! C(..) whose exceptions are wished for at the caller's slots; the number of different ints; == of alternatives and wide tuples -/
namespace TC
open PySem PySem.Spec PyProof.Rows L2
section
variable {XR : XRel} {W : WX} {X : Cx} {S S' S2 L ρ : Type} {G : Ctx S} {G' : Ctx S'} {α β γ ι : Type} {e a b : Expr} {es : List Expr} {pos : Pos} {p p1 p2 p3 : Bool} {Rr : Rl ρ} {Gb : Ctx L}

/-! ### C(..) -/
def tMk (C : Addr) (sp : Sp) (E : St → XK) (t : TA) : TE := fun σ H Q => t σ H fun vs H1 => ∀ o d, H1 o = none → H1 d = none → d ≠ o → sp (.ref o :: vs) (upd (upd H1 d (.own o)) o (.ins C d [])) (fun v H2 => v = .non ∧ Q (.ref o) H2) (E σ)
theorem pe_mk {k : Nat} {C f : Addr} {fd : FuncData} {ps : List Str} {sp : Sp} {E : St → XK} {x : Str} {pp : Pos} {t : TA} (M : Mk X.K C f) (Fk : FnOk X.prog X.w X.K X.mg X.base (L2.CX X.prog X.w) k f fd ps sp) (hr : Room (k + 1) X.A) (hg : L2.Gl X x) (hm : X.mg x = some (.ref C)) (hb : Binds X.K fd ps []) (tk : Takes X (fun cls d σ H => E σ cls d H))
    (ha : PA X (e :: es) t) (hdb : (x == ("__debug__" : Str)) = false := by decide) (he : starEach (e :: es) X.env = (false, eval e X.env) :: starEach es X.env := by rfl) (hpl : (backTo pos (starEach es X.env)).any (·.1) = false := by rfl) :
    PE X (.Call (.Name x pp) (e :: es) [] pos) (tMk C sp E t) := by
  refine ⟨fun pins s σ H Q I h => wpAny_Call_Name_kw (ld_glob I hg hm ?_ hdb)⟩
  refine PySem.W.callWith_K (h₀ := X.base) I.ok.mod.kin M.kp (thn (ha.run pos pins s σ H _ I h) fun us s1 ⟨vs, H1, I1, r, q⟩ => ⟨I1.kIn, ?_⟩) he hpl
  have new := Inv.made (C := C) I1
  have q0 := q _ _ (I1.hok.fresh (Nat.le_succ s1.heap.objs.size)) (I1.hok.fresh (Nat.le_refl _)) (Nat.ne_of_lt (Nat.lt_succ_self _))
  have rv : Vals (V.ref (s1.heap.objs.size + 1) :: vs) (Value.ref (s1.heap.objs.size + 1) :: us) := .cons rfl r
  have hlen : (Value.ref (s1.heap.objs.size + 1) :: us ++ []).length = ps.length := by rw [List.append_nil, ← rv.length, Fk.len _ _ _ _ q0]
  have bnd := hb _ (Value.ref (s1.heap.objs.size + 1) :: us) new.kIn hlen
  rw [List.append_nil] at bnd
  refine wpAny_call (make_map (f := f) I1.kIn M.makes M.init (beq_iff_eq.mp M.fn) (codeAny_mono (Fk.run _ X.stack _ _ ⟨Value.ref (s1.heap.objs.size + 1) :: us, []⟩ _ _ _ (E σ) (hr.make C us []) (new.env0.make C us []) bnd rv q0) fun o s2 ho => ?_))
  rcases o with er | fl
  · exact tk _ _ (XE.of_call new (fun _ _ _ z => z) ho)
  · rcases fl with _ | _ | _ | u
    all_goals first | exact ho.elim | skip
    obtain ⟨v, H2, I2, r2, rfl, q2⟩ := new.after ho
    exact ⟨r2, .ref (s1.heap.objs.size + 1), H2, I2, rfl, q2⟩
theorem em_makeS {fr : FR α} {C fi : Addr} {k : Nat} {fd : FuncData} {ps : List Str} {x : Str} {pp : Pos} {Z : RA β} {m : Unit × β → Res α} {fargs : S → Res (β × S)} (tk : Takes X W) (M : Mk X.K C fi) (Fk : FnOk X.prog X.w X.K X.mg X.base (L2.CX X.prog X.w) k fi fd ps (spI XR C fr Z m)) (hr : Room (k + 1) X.A) (hg : L2.Gl X x) (hm : X.mg x = some (.ref C)) (hb : Binds X.K fd ps [])
    (ha : AM XR W X p G (e :: es) Z fargs) (hdb : (x == ("__debug__" : Str)) = false := by decide) (he : starEach (e :: es) X.env = (false, eval e X.env) :: starEach es X.env := by rfl) (hpl : (backTo pos (starEach es X.env)).any (·.1) = false := by rfl) :
    EM XR W X p G (.Call (.Name x pp) (e :: es) [] pos) (fz (tIns C fr)) (kMake m fargs) := by
  obtain ⟨t, ht, h⟩ := ha
  refine ⟨_, pe_mk (E := fun σ cls d H => W cls d σ H) M Fk hr hg hm hb tk ht hdb he hpl, fun s F σ H A Q g kk w => h s F σ H A _ g kk (WPA.bindE w fun y s1 vs F1 H1 B A1 r1 g1 e1 q1 w => ?_)⟩
  intro ax dx hx hdx ne
  have n2 : upd H1 dx (.own ax) ax = none := by rw [upd_ne ne.symm]; exact hx
  have k1 : Ext F1 H1 (B ++ A1) F1 (upd H1 dx (.own ax)) (B ++ A1) := (Ext.newO e1.holds hdx).sub (List.sublist_cons_self _ _)
  have k2 := k1.trans (Ext.newO (o := .ins C dx []) k1.holds n2)
  refine ⟨ax, ((), y), F1, (ax, .ins C dx []) :: B, ⟨.ref ax, vs, [(ax, .ins C dx [])], B, rfl, rfl, ⟨rfl, dx, [], rfl, rfl⟩, r1⟩, k2.holds.sub (List.Sublist.cons_cons _ (List.sublist_append_left _ _)), ?_⟩
  cases q : m ((), y) with
  | bad => dsimp only at w; rw [q] at w; exact w.elim
  | er ex =>
    dsimp only at w
    rw [q] at w
    exact fun cls oe F' H' A' h1 h2 => w cls oe F' H' (A' ++ A1) h1 ((e1.trans k2).trans (Ext.frame (A := (ax, .ins C dx []) :: B) (B := A1) k2.holds h2))
  | ok z =>
    dsimp only at w
    rw [q] at w
    rintro v F' H' A' ⟨rfl, dx', fs', rfl, rz⟩ h2
    refine ⟨rfl, ?_⟩
    have fr1 := Ext.frame (A := (ax, .ins C dx []) :: B) (B := A1) k2.holds h2
    have fz1 : Ext F' H' ((ax, .ins C dx' fs') :: A1) (upd F' ax (.ins C dx' fs')) H' A1 := Ext.freeze fr1.holds
    exact w _ _ H' [] A1 ⟨rfl, ax, dx', fs', rfl, upd_same, fr.mono rz fz1.fz⟩ (G.mono (G.mono g1 h2.fz) fz1.fz) (((e1.trans k2).trans fr1).trans fz1) q1

/-! ### len(set(xs)), xs ints -/
def distinct [DecidableEq α] : List α → List α → List α
  | [], acc => acc
  | x :: xs, acc => if x ∈ acc then distinct xs acc else distinct xs (acc ++ [x])
def nDiff [DecidableEq α] (xs : List α) : Int := ((distinct xs []).length : Int)
theorem dedup_eq : ∀ (xs acc : List Int), xs.foldl step_dedup acc = distinct xs acc
  | [], acc => rfl
  | x :: xs, acc => by
    rw [List.foldl_cons, distinct, dedup_eq xs]
    unfold step_dedup
    by_cases h : x ∈ acc
    · rw [if_pos h, if_pos (by simpa using h)]
    · rw [if_neg h, if_neg (by simpa using h)]
theorem firstMet_eq (ns : List Int) : firstMet (fun i => ns.getD i 0) ns.length = distinct ns [] := by
  unfold firstMet
  rw [dedup_eq]
  congr 1
  refine List.ext_getElem (by simp) fun i h1 h2 => ?_
  simp [List.getD_eq_getElem?_getD, List.getElem?_eq_getElem h2]
theorem distinct_le [DecidableEq α] : ∀ (xs acc : List α), (distinct xs acc).length ≤ acc.length + xs.length
  | [], acc => Nat.le_refl _
  | x :: xs, acc => by
    rw [distinct]
    split
    · have := distinct_le xs acc; rw [List.length_cons]; omega
    · have := distinct_le xs (acc ++ [x]); simp at this ⊢; omega
theorem pe_lenSetD {ta : TE} {q q2 q3 : Pos} (hc : X.calm = true) (hg : L2.Gl X "len") (hm : X.mg "len" = none) (hg2 : L2.Gl X "set") (hm2 : X.mg "set" = none) (ha : PE X a ta) (na : starEach [a] X.env = (false, eval a X.env) :: starEach [] X.env := by rfl) :
    PE X (.Call (.Name "len" q) [.Call (.Name "set" q2) [a] [] q3] [] pos) (fun σ H Q => ta σ H fun x H1 => ∃ (l : Addr) (ns : List Int), x = .ref l ∧ SqL X.K H1 l (ns.map V.int) ∧ ns.length ≤ 4000 ∧ Q (.int (nDiff ns)) H1) := by
  refine ⟨fun pins s σ H Q I h => Call_ (ld_blt I hg hm boot_len ?_)⟩
  refine PyProof.Rows.callWith_builtin1 (PyProof.Rows.args_cons (Call_ (ld_blt I hg2 hm2 boot_set ?_)) rfl) rfl rfl
  refine PyProof.Rows.callWith_type1 (PyProof.Rows.args_cons (thn (ha.run pins s σ H _ I h) fun v s1 hv => PyProof.Rows.args_nil ?_) na) na rfl
  obtain ⟨x, H1, I1, r1, l, ns, rfl, hq, hl, q1⟩ := hv
  cases r1
  obtain ⟨us, r, pl, hz⟩ := I1.list hq
  have hn : us.toArray.size = ns.length := by rw [List.size_toArray, ← r.length, List.length_map]
  have hle := distinct_le ns []
  have l0 : ([] : List Int).length = 0 := rfl
  rw [l0] at hle
  refine call_set_list (I1.ok.hd hc) pl.isList (by simpa using RZ.intsAre_vals r) (by rw [hn]; unfold scanBound; omega) fun h2 tk hS keep => PyProof.Rows.args_nil ?_
  rw [hn, firstMet_eq] at hS
  obtain ⟨o, es, ep, t, ho, hex, hd, _, _, _, hf, hcnt⟩ := hS
  have I2 : Inv X pins σ H1 { s1 with heap := h2, toks := tk } := I1.kept fun b o e => keep b o (Heap.lt_size e) e
  exact call_len_set ho hex hd hf (by rw [hcnt]; omega) ⟨.int (nDiff ns), H1, I2.tok _, ⟨_, by rw [hcnt]; rfl⟩, q1⟩
def mDiff [DecidableEq α] (xs : List α) : Res Int := if xs.length ≤ 4000 then .ok (nDiff xs) else .bad
theorem em_lenSet {f : S → Res (List Int × S)} {q q2 q3 : Pos} (hc : X.calm = true) (hg : L2.Gl X "len") (hm : X.mg "len" = none) (hg2 : L2.Gl X "set") (hm2 : X.mg "set" = none) (ha : EM XR W X p G a (fz (tLst tInt)) f) (na : starEach [a] X.env = (false, eval a X.env) :: starEach [] X.env := by rfl) :
    EM XR W X p G (.Call (.Name "len" q) [.Call (.Name "set" q2) [a] [] q3] [] pos) (fz tInt) (kU mDiff f) := by
  obtain ⟨t, ht, h⟩ := ha
  refine ⟨_, pe_lenSetD hc hg hm hg2 hm2 ht na, fun s F σ H A Q g k w => h s F σ H A _ g k (WPE.bind w fun x s1 v F1 H1 B A1 ⟨rB, a, vs, ev, q, r⟩ g1 e1 q1 w => ?_)⟩
  subst rB ev
  dsimp only at w
  unfold mDiff at w
  by_cases hl : x.length ≤ 4000
  · rw [if_pos hl] at w
    exact ⟨a, x, rfl, by rw [← ints_map r]; exact SqL.of (e1.holds.fz _ _ q), hl, w _ F1 H1 [] A1 ⟨rfl, rfl⟩ g1 e1 q1⟩
  · rw [if_neg hl] at w; exact w.elim

/-! ### texts: their code points -/
def tTxt : Ty (List Nat) := ⟨fun _ v x => v = .str ⟨x.toArray⟩ ∧ ∀ c ∈ x, c < 0x110000, fun h _ => h⟩
theorem em_txt {i : Str} {j : Nat} {x : List Nat} (h : i.cps.toList = x) (hx : (x.all fun c => decide (c < 0x110000)) = true) : EM XR W X true G (.Constant (.str i) j pos) (fz tTxt) (kC x) :=
  ⟨_, pe_str, fun s F σ H A Q g k w => w _ F H [] A ⟨rfl, by subst h; rfl, fun c hc => by simpa using List.all_eq_true.mp hx c hc⟩ g (Ext.refl k) fun _ => ⟨rfl, rfl⟩⟩
def scTxt : Scal tTxt := ⟨fun x => V.str ⟨x.toArray⟩, fun _ _ _ h => h.1, fun x y h => by injection h with h; injection h with h; simpa using h, fun _ _ => rfl, fun _ => rfl, fun x y => by
  show ((⟨x.toArray⟩ : Str) == ⟨y.toArray⟩) = _
  rw [Bool.beq_eq_decide_eq]
  exact dec_congr ⟨fun h => by injection h with h; simpa using h, fun h => by rw [h]⟩⟩
theorem nnTxt : ∀ F v x, tTxt.R F v x → v ≠ .non := fun F v x e z => by rw [e.1] at z; cases z

/-! ### == -/
section
variable {K : PySem.W.Frag} {T : Ty α} {U : Ty β} {V' : Ty γ} [DecidableEq α] [DecidableEq β] [DecidableEq γ]
def eqAlt (c : EqT K T) (d : EqT K U) (nn : ∀ x y, PyData.eqv (c.enc x) (d.enc y) = false ∧ PyData.eqv (d.enc y) (c.enc x) = false) : EqT K (tAlt T U) := ⟨fun o => match o with | .inl x => c.enc x | .inr y => d.enc y,
  fun {H v x} r => by
    cases x with
    | inl y => exact c.dp r
    | inr y => exact d.dp r,
  fun {H v x} r => by
    cases x with
    | inl y => exact c.lay r
    | inr y => exact d.lay r,
  max c.d d.d, fun x => by
    cases x with
    | inl y => exact Nat.le_trans (c.dep y) (Nat.le_max_left _ _)
    | inr y => exact Nat.le_trans (d.dep y) (Nat.le_max_right _ _),
  fun x y => by
    cases x with
    | inl x => cases y with
      | inl y => simp [c.eqv]
      | inr y => simp [(nn x y).1]
    | inr x => cases y with
      | inl y => simp [(nn y x).2]
      | inr y => simp [d.eqv]⟩
def eqP3 (c : EqT K T) (d : EqT K U) (e : EqT K V') : EqT K (tP3 T U V') := ⟨fun x => .tuple [c.enc x.1, d.enc x.2.1, e.enc x.2.2],
  fun ⟨a, v1, v2, v3, ev, q, r1, r2, r3⟩ => by rw [ev]; exact .tup (SqT.of q) (.cons (c.dp r1) (.cons (d.dp r2) (.cons (e.dp r3) .nil))), fun ⟨a, v1, v2, v3, ev, q, r1, r2, r3⟩ => by simp [PyData.canLay0, PyData.canLayAll0, c.lay r1, d.lay r2, e.lay r3],
  max c.d (max d.d e.d) + 1, fun x => by
    have h1 := c.dep x.1
    have h2 := d.dep x.2.1
    have h3 := e.dep x.2.2
    simp only [PyData.depth, PyData.depthAll]
    omega,
  fun x y => by
    simp only [PyData.eqv, PyData.eqvAll, c.eqv, d.eqv, e.eqv]
    rw [Bool.eq_iff_iff]
    simp [Prod.ext_iff]⟩
def eqTxt : EqT K tTxt := ⟨fun x => .str ⟨x.toArray⟩, fun r => by rw [r.1]; exact .str _, fun {H v x} r => by
    show PyData.strOk _ = true
    unfold PyData.strOk
    simpa using r.2, 0, fun _ => Nat.le_refl _, fun x y => by
    rw [PyData.eqv, Bool.beq_eq_decide_eq]
    exact dec_congr ⟨fun h => by simpa using h, fun h => by rw [h]⟩⟩
end
end
end TC
/-! the new words, by what they ask; from a promise over one way that exceptions lie to another -/
namespace TC
open PySem PySem.Spec PyProof.Rows L2
section
variable {S S' S2 L L' L1 ρ P : Type} {α β γ ι : Type} {E : Ex → Prop} {s : S} {R : ρ → Prop} {B C : L → Prop} {Q : S' → Prop} {QS : S → Prop} {Q2 : S2 → Prop} {Qa : α × S → Prop}
theorem Out.is_er {e : Ex} : (Out.er e : Out S L ρ).Is E R B C QS = E e := by rw [Out.is_z]; exact propext Iff.rfl
theorem Out.is_bad {R : ρ → Prop} : (Out.bad : Out S L ρ).Is E R B C QS = False := by rw [Out.is_z]; exact propext Iff.rfl
theorem w_Bad : (kBad s : Out S' L ρ).Is E R B C Q = False := by unfold kBad; exact Out.is_bad
theorem w_Er {c : String} : (kEr c s : Out S' L ρ).Is E R B C Q = E ⟨c, none⟩ := by unfold kEr; exact Out.is_er
theorem w_ErN {c : String} {f : S → Res (Int × S)} : (kErN c f s : Out S' L ρ).Is E R B C Q = (f s).Is E fun r => E ⟨c, some r.1⟩ := by unfold kErN; simp only [Res.is_out, Out.is_er]
theorem w_Try {c : String} {fb : S → Out S' L ρ} {fs : Option Int → Out S' L ρ} : (kTry c fb fs s).Is E R B C Q = (fb s).Is (fun ex => if ex.cls = c then (noEr (fs ex.val)).Is E R B C Q else False) R B C Q := by
  unfold kTry
  cases fb s with
  | er ex =>
    dsimp only
    rw [Out.is_er]
    by_cases h : ex.cls = c
    · rw [if_pos h, if_pos h]
    · rw [if_neg h, if_neg h, Out.is_bad]
  | nx a => dsimp only; rw [Out.is_nx, Out.is_nx]
  | rt a => dsimp only; rw [Out.is_rt, Out.is_rt]
  | bk a => dsimp only; rw [Out.is_bk, Out.is_bk]
  | ct a => dsimp only; rw [Out.is_ct, Out.is_ct]
  | bad => dsimp only; rw [Out.is_bad, Out.is_bad]
theorem noEr_rt {r : ρ} : (noEr (Out.rt r : Out S L ρ)) = .rt r := rfl
theorem w_noErRt {r : ρ} : (noEr (Out.rt r : Out S L ρ)).Is E R B C QS = R r := by rw [noEr_rt, Out.is_rt]
theorem w_Cut {f : S → Res (List α × S)} {lo hi : S → Res (Option Int × S)} {Ql : List α × S → Prop} : (kCut f lo hi s).Is E Ql = (f s).Is E fun r => (lo r.2).Is E fun l => (hi l.2).Is E fun h => Ql (mCut r.1 l.1 h.1, h.2) := by unfold kCut; simp only [Res.is_bind, Res.is_ok]
theorem w_AugIx {get : S → List Int} {put : S → List Int → S} {op : Int → Int → Int} {fi f : S → Res (Int × S)} : (kAugIx get put op fi f s : Out S L ρ).Is E R B C QS = (fi s).Is E fun q => (mIx (get q.2) q.1).Is E fun x => (f q.2).Is E fun r => (mSet (get r.2) q.1 (op x r.1)).Is E fun z => QS (put r.2 z) := by
  unfold kAugIx; simp only [Res.is_out, Out.is_nx]
theorem is_mSome {o : Option α} {Q : α → Prop} (x : α) (h : o = some x) (k : Q x) : (mSome o).Is E Q := by subst h; exact isk k
theorem w_mSome {x : α} {Q : α → Prop} : (mSome (some x)).Is E Q = Q x := Res.is_ok
theorem w_mInl {x : α} {Q : α → Prop} : (mInl (.inl x : α ⊕ β)).Is E Q = Q x := Res.is_ok
theorem w_mInr {x : β} {Q : β → Prop} : (mInr (.inr x : α ⊕ β)).Is E Q = Q x := Res.is_ok
theorem mAlt_l {g1 : α → γ} {g2 : β → γ} {x : α} : mAlt g1 g2 (.inl x) = g1 x := rfl
theorem mAlt_r {g1 : α → γ} {g2 : β → γ} {x : β} : mAlt g1 g2 (.inr x) = g2 x := rfl
theorem is_mDiff [DecidableEq α] {xs : List α} {Q : Int → Prop} (h : xs.length ≤ 4000) (k : Q (nDiff xs)) : (mDiff xs).Is E Q := by unfold mDiff; rw [if_pos h]; exact isk k
theorem distinct_nodup [DecidableEq α] : ∀ (xs acc : List α), (∀ x ∈ xs, x ∉ acc) → xs.Nodup → distinct xs acc = acc ++ xs
  | [], acc, _, _ => by rw [distinct, List.append_nil]
  | x :: xs, acc, h, nd => by
    obtain ⟨n1, n2⟩ := List.nodup_cons.mp nd
    rw [distinct, if_neg (h x List.mem_cons_self), distinct_nodup xs (acc ++ [x]) (fun y hy z => by
      rcases List.mem_append.mp z with z | z
      · exact h y (List.mem_cons_of_mem _ hy) z
      · rw [List.mem_singleton.mp z] at hy; exact n1 hy) n2, List.append_assoc, List.singleton_append]
theorem distinct_lt [DecidableEq α] : ∀ (xs acc : List α), ¬ ((∀ x ∈ xs, x ∉ acc) ∧ xs.Nodup) → (distinct xs acc).length < acc.length + xs.length
  | [], acc, h => absurd ⟨(fun _ m => by cases m), List.nodup_nil⟩ h
  | x :: xs, acc, h => by
    rw [distinct]
    by_cases hx : x ∈ acc
    · rw [if_pos hx]
      have := distinct_le xs acc
      rw [List.length_cons]; omega
    · rw [if_neg hx]
      have := distinct_lt xs (acc ++ [x]) (fun ⟨h1, h2⟩ => h ⟨fun y hy => by
        rcases List.mem_cons.mp hy with e | e
        · rw [e]; exact hx
        · intro z; exact h1 y e (List.mem_append_left _ z), List.nodup_cons.mpr ⟨fun z => h1 x z (List.mem_append_right _ (List.mem_singleton_self _)), h2⟩⟩)
      simp at this ⊢; omega
theorem nDiff_eq [DecidableEq α] (xs : List α) : nDiff xs = (xs.length : Int) ↔ xs.Nodup := by
  unfold nDiff
  by_cases h : xs.Nodup
  · rw [distinct_nodup xs [] (fun _ _ z => by cases z) h, List.nil_append]
    exact ⟨fun _ => h, fun _ => rfl⟩
  · have := distinct_lt xs [] (fun z => h z.2)
    simp at this
    exact ⟨fun z => by omega, fun z => absurd z h⟩
end
section
variable {ι P' ρ : Type} {Z : ι → RA P'} {R : ι → Rl ρ} {m : P' → Res ρ} {XR : XRel}
theorem spF_weak {vs : List V} {H : Hp} {Q : VK} {E : XK} : spF (fun _ _ _ _ => True) Z R m vs H Q E → spF XR Z R m vs H Q E := fun ⟨i, x, F, A, hz, hh, w⟩ => ⟨i, x, F, A, hz, hh, by
  cases q : m x with
  | ok r => rw [q] at w; exact w
  | bad => rw [q] at w; exact w.elim
  | er ex => rw [q] at w; exact fun cls oe F' H' A' _ h => w cls oe F' H' A' trivial h⟩
end
theorem exm_me {K : PySem.W.Frag} {C : Addr} (hb : PySem.W.subIn K (.ref C) (.type "BaseException") = some true) (hc : PySem.W.isClsIn K C = true) (ht : PySem.W.typeIn K (.ref C) = some (.type "type")) (hs : PySem.W.subIn K (.ref C) (.ref C) = some true) : PySem.W.exmOne K (.ref C) (.ref C) = some true := by
  have k : ((PySem.W.clsIn K C).isSome && PySem.W.typeIn K (.ref C) == some (.type "type")) = true := Bool.and_eq_true_iff.mpr ⟨hc, by rw [ht]; rfl⟩
  unfold PySem.W.exmOne
  rw [if_pos (by rw [hb]; rfl)]
  exact (if_pos k).trans hs
end TC
/-! list(range(n)), tuple(range(n)) -/
namespace TC
open PySem PySem.Spec PyProof.Rows L2
section
variable {XR : XRel} {W : WX} {X : Cx} {S S' S2 L ρ : Type} {G : Ctx S} {G' : Ctx S'} {α β γ ι : Type} {e a b : Expr} {es : List Expr} {pos : Pos} {p p1 p2 p3 : Bool} {Rr : Rl ρ} {Gb : Ctx L}
def mRng (n : Int) : Res (List Int) := if -1000000 ≤ n ∧ n ≤ 1000000 then .ok (irange 0 n) else .bad
theorem rgv_irange {F : Hp} (n : Int) : All2 (tInt.R F) (rgV 0 n) (irange 0 n) := by
  unfold rgV irange
  exact all2_irange _
theorem em_listR {f : S → Res (Int × S)} {q q2 q3 : Pos} (hc : X.calm = true) (hg : L2.Gl X "list") (hm : X.mg "list" = none) (hg2 : L2.Gl X "range") (hm2 : X.mg "range" = none) (h : EM XR W X p G a (fz tInt) f)
    (hs : starEach [a] X.env = [(false, eval a X.env)] := by rfl) (na : starEach [.Call (.Name "range" q2) [a] [] q3] X.env = (false, eval (.Call (.Name "range" q2) [a] [] q3) X.env) :: starEach [] X.env := by rfl) :
    EM XR W X p G (.Call (.Name "list" q) [.Call (.Name "range" q2) [a] [] q3] [] pos) (oL tInt) (kU mRng f) := by
  obtain ⟨t, ht, h⟩ := h
  refine ⟨_, pe_listRg hc hg hm (prg_1 hg2 hm2 ht hs) na, fun s F σ H A Q g k w => h s F σ H A _ g k (WPE.bind w fun n s1 v F1 H1 B A1 ⟨rB, r1⟩ g1 e1 q1 w => ?_)⟩
  subst rB
  have r1 : v = .int n := r1
  subst r1
  dsimp only at w
  unfold mRng at w
  by_cases hn : -1000000 ≤ n ∧ n ≤ 1000000
  · rw [if_pos hn] at w
    refine ⟨n, rfl, ⟨by omega, by omega, by omega, by omega, by omega⟩, fun l hl => ?_⟩

    exact w _ F1 _ [(l, .lst _)] A1 ⟨l, _, rfl, rfl, rgv_irange n⟩ g1 (e1.trans (Ext.newO e1.holds hl)) q1
  · rw [if_neg hn] at w; exact w.elim
theorem em_tupR {f : S → Res (Int × S)} {q q2 q3 : Pos} (hc : X.calm = true) (hg : L2.Gl X "tuple") (hm : X.mg "tuple" = none) (hg2 : L2.Gl X "range") (hm2 : X.mg "range" = none) (h : EM XR W X p G a (fz tInt) f)
    (hs : starEach [a] X.env = [(false, eval a X.env)] := by rfl) (na : starEach [.Call (.Name "range" q2) [a] [] q3] X.env = (false, eval (.Call (.Name "range" q2) [a] [] q3) X.env) :: starEach [] X.env := by rfl) :
    EM XR W X p G (.Call (.Name "tuple" q) [.Call (.Name "range" q2) [a] [] q3] [] pos) (fz (tTup tInt)) (kU mRng f) := by
  obtain ⟨t, ht, h⟩ := h
  refine ⟨_, pe_tupRg hc hg hm (prg_1 hg2 hm2 ht hs) na, fun s F σ H A Q g k w => h s F σ H A _ g k (WPE.bind w fun n s1 v F1 H1 B A1 ⟨rB, r1⟩ g1 e1 q1 w => ?_)⟩
  subst rB
  have r1 : v = .int n := r1
  subst r1
  dsimp only at w
  unfold mRng at w
  by_cases hn : -1000000 ≤ n ∧ n ≤ 1000000
  · rw [if_pos hn] at w
    refine ⟨n, rfl, ⟨by omega, by omega, by omega, by omega, by omega⟩, fun l hl => ?_⟩

    have ex : Ext F1 H1 A1 (upd F1 l (.tup (rgV 0 n))) (upd H1 l (.tup (rgV 0 n))) A1 := Ext.newF e1.holds hl
    exact w _ _ _ [] A1 ⟨rfl, l, _, rfl, upd_same, rgv_irange n⟩ (G.mono g1 ex.fz) (e1.trans ex) q1
  · rw [if_neg hn] at w; exact w.elim
theorem is_mRng {n : Int} {Q : List Int → Prop} {E : Ex → Prop} (h : -1000000 ≤ n ∧ n ≤ 1000000) (k : Q (irange 0 n)) : (mRng n).Is E Q := by unfold mRng; rw [if_pos h]; exact isk k
theorem em_chain2 {δ : Type} {op op' : CmpOp} {T : Ty α} {U : Ty β} {V' : Ty δ} {g : α → β → Bool} {g' : β → δ → Bool} {c : Expr} {fa : S → Res (α × S)} {fb : S → Res (β × S)} {fc : S → Res (δ × S)} (c1 : Cmp X op T U g) (c2 : Cmp X op' U V' g') (ha : EM XR W X p1 G a (fz T) fa) (hb : EM XR W X p2 G b (fz U) fb) (hc : EM XR W X p3 G c (fz V') fc) (hm : lastMarks [op, op'] [b, c] = false := by with_unfolding_all rfl) :
    EM XR W X (p1 && (p2 && p3)) G (.Compare a [op, op'] [b, c] pos) (fz tBool) (kChain g g' fa fb fc) := tm_chain c1 c2 ha hb hc fun r r' ta tb tc o1 o2 h1 h2 h3 => pe_chain o1 o2 h1 h2 h3 hm
theorem tm_chain2 {δ : Type} {op op' : CmpOp} {T : Ty α} {U : Ty β} {V' : Ty δ} {g : α → β → Bool} {g' : β → δ → Bool} {c : Expr} {fa : S → Res (α × S)} {fb : S → Res (β × S)} {fc : S → Res (δ × S)} (c1 : Cmp X op T U g) (c2 : Cmp X op' U V' g') (ha : EM XR W X p1 G a (fz T) fa) (hb : EM XR W X p2 G b (fz U) fb) (hc : EM XR W X p3 G c (fz V') fc) (hm : lastMarks [op, op'] [b, c] = false := by with_unfolding_all rfl) (he : ∀ whole, isTrue (.Compare a [op, op'] [b, c] pos) X.env whole = (do let v ← whole; standAt (Expr.Compare a [op, op'] [b, c] pos).pos; holding [v] (truthy v)) := by intro _; rfl) :
    TM XR W X (p1 && (p2 && p3)) G (.Compare a [op, op'] [b, c] pos) (kChain g g' fa fb fc) := tm_val (em_chain2 c1 c2 ha hb hc hm) he
end
end TC
/-! loops and comprehensions of the mirrors, by what they leave: for plain laws -/
namespace TC
open PySem PySem.Spec PyProof.Rows L2
section
variable {ι S β L L' ρ : Type} {E E' : Ex → Prop} {R : ρ → Prop}
theorem line_of {n : Nat} (h : n ≤ 1000000) : n ≤ sizeLine := Nat.le_trans h big_line
/-- a comprehension without if, item by item -/
theorem comp_map {body : ι → S → Res (Option β × S)} {Q : List β × S → Prop} {xs : List ι} {s : S} (g : ι → β) (St : S → Prop) (hl : xs.length ≤ 1000000) (h0 : St s) (hs : ∀ x s, x ∈ xs → St s → (body x s).Is (fun _ => False) fun r => r.1 = some (g x) ∧ St r.2)
    (hd : ∀ s, St s → Q (xs.map g, s)) : (mComp body xs s).Is E' Q := by
  refine mComp_is (line_of hl) (fun i s acc => St s ∧ acc = (xs.take i).map g) ⟨h0, rfl⟩ (fun i x s acc hx ⟨h1, h2⟩ => ?_) (fun s acc ⟨h1, h2⟩ => ?_)
  · refine (hs x s (List.mem_of_getElem? hx) h1).mono fun r ⟨e, h⟩ => ⟨h, ?_⟩
    rw [e, h2, List.take_add_one, hx, List.map_append]; rfl
  · rw [h2, List.take_length]; exact hd s h1
/-- .. of which only something is known -/
theorem comp_any {body : ι → S → Res (Option β × S)} {Q : List β × S → Prop} {xs : List ι} {s : S} (Pr : β → Prop) (St : S → Prop) (hl : xs.length ≤ 1000000) (h0 : St s) (hs : ∀ x s, x ∈ xs → St s → (body x s).Is (fun _ => False) fun r => (∃ y, r.1 = some y ∧ Pr y) ∧ St r.2)
    (hd : ∀ ys s, ys.length = xs.length → (∀ y ∈ ys, Pr y) → St s → Q (ys, s)) : (mComp body xs s).Is E' Q := by
  refine mComp_is (line_of hl) (fun i s acc => St s ∧ acc.length = i ∧ ∀ y ∈ acc, Pr y) ⟨h0, rfl, fun _ m => by cases m⟩ (fun i x s acc hx ⟨h1, h2, h3⟩ => ?_) (fun s acc ⟨h1, h2, h3⟩ => hd acc s h2 h3 h1)
  refine (hs x s (List.mem_of_getElem? hx) h1).mono fun r ⟨⟨y, e, hy⟩, h⟩ => ⟨h, ?_, ?_⟩
  · rw [e]; simp [h2]
  · rw [e]
    intro z hz
    rcases List.mem_append.mp hz with hz | hz
    · exact h3 z hz
    · simp at hz; rw [hz]; exact hy
/-- .. place by place -/
theorem comp_at {body : ι → S → Res (Option β × S)} {Q : List β × S → Prop} {xs : List ι} {s : S} (Pr : Nat → β → Prop) (St : S → Prop) (hl : xs.length ≤ 1000000) (h0 : St s) (hs : ∀ i x s, xs[i]? = some x → St s → (body x s).Is (fun _ => False) fun r => (∃ y, r.1 = some y ∧ Pr i y) ∧ St r.2)
    (hd : ∀ ys s, ys.length = xs.length → (∀ (i : Nat) (y : β), ys[i]? = some y → Pr i y) → St s → Q (ys, s)) : (mComp body xs s).Is E' Q := by
  refine mComp_is (line_of hl) (fun i s acc => St s ∧ acc.length = i ∧ ∀ (j : Nat) (y : β), acc[j]? = some y → Pr j y) ⟨h0, rfl, fun _ _ m => by simp at m⟩ (fun i x s acc hx ⟨h1, h2, h3⟩ => ?_) (fun s acc ⟨h1, h2, h3⟩ => hd acc s h2 h3 h1)
  refine (hs i x s hx h1).mono fun r ⟨⟨y, e, hy⟩, h⟩ => ⟨h, ?_, ?_⟩
  · rw [e]; simp [h2]
  · rw [e]
    intro j z hz
    rw [List.getElem?_append] at hz
    split at hz
    · exact h3 j z hz
    · rename_i hj
      simp only [Option.toList_some] at hz
      have hj2 : j = i := by
        rcases Nat.lt_or_ge (j - acc.length) 1 with h | h
        · omega
        · rw [List.getElem?_eq_none (by simpa using h)] at hz; cases hz
      subst hj2
      rw [h2, Nat.sub_self] at hz
      cases hz
      exact hy
/-- a comprehension with if -/
theorem comp_filter {body : ι → S → Res (Option β × S)} {Q : List β × S → Prop} {xs : List ι} {s : S} (c : ι → Bool) (g : ι → β) (St : S → Prop) (hl : xs.length ≤ 1000000) (h0 : St s) (hs : ∀ x s, x ∈ xs → St s → (body x s).Is (fun _ => False) fun r => r.1 = (if c x = true then some (g x) else none) ∧ St r.2)
    (hd : ∀ s, St s → Q ((xs.filter c).map g, s)) : (mComp body xs s).Is E' Q := by
  refine mComp_is (line_of hl) (fun i s acc => St s ∧ acc = ((xs.take i).filter c).map g) ⟨h0, rfl⟩ (fun i x s acc hx ⟨h1, h2⟩ => ?_) (fun s acc ⟨h1, h2⟩ => ?_)
  · refine (hs x s (List.mem_of_getElem? hx) h1).mono fun r ⟨e, h⟩ => ⟨h, ?_⟩
    rw [e, h2, List.take_add_one, hx, List.filter_append, List.map_append]
    congr 1
    by_cases hc : c x = true
    · rw [if_pos hc]; simp [List.filter_cons, hc]
    · rw [if_neg hc]; simp [List.filter_cons, hc]
  · rw [h2, List.take_length]; exact hd s h1
/-- a for that looks for a reason to return, and goes on without -/
theorem for_all {body : ι → L → Out L L ρ} {B' C' : L' → Prop} {Q : L → Prop} {xs : List ι} {l : L} (c : ι → Bool) (St : L → Prop) (Rf : ρ → Prop) (h0 : St l)
    (hs : ∀ x l, x ∈ xs → St l → (body x l).Is E (fun r => c x = false ∧ Rf r) (fun _ => False) (fun l' => c x = true ∧ St l') (fun l' => c x = true ∧ St l'))
    (hr : ∀ r, xs.all c = false → Rf r → R r) (hd : ∀ l, St l → xs.all c = true → Q l) : (forM body xs l : Out L L' ρ).Is E R B' C' Q := by
  refine forM_is (fun i l => St l ∧ (xs.take i).all c = true) ⟨h0, rfl⟩ (fun i x l hx ⟨h1, h2⟩ => ?_) (fun l ⟨h1, h2⟩ => hd l h1 (by rwa [List.take_length] at h2))
  have hm := List.mem_of_getElem? hx
  have st : c x = true → (xs.take (i + 1)).all c = true := fun hc => by rw [List.take_add_one, hx, List.all_append, h2]; simp [hc]
  refine (hs x l hm h1).mono (fun r ⟨h, h'⟩ => hr r ?_ h') (fun _ h => h.elim) (fun l' ⟨h, h'⟩ => ⟨h', st h⟩) (fun l' ⟨h, h'⟩ => ⟨h', st h⟩)
  cases z : xs.all c with
  | false => rfl
  | true => rw [List.all_eq_true.mp z x hm] at h; cases h
/-- a for that folds -/
theorem for_fold {α : Type} {body : ι → L → Out L L ρ} {B' C' : L' → Prop} {Q : L → Prop} {xs : List ι} {l : L} (f : α → ι → α) (a : α) (St : α → L → Prop) (h0 : St a l)
    (h1 : ∀ i x l, xs[i]? = some x → St ((xs.take i).foldl f a) l → (body x l).Is E R (fun _ => False) (St (f ((xs.take i).foldl f a) x)) (St (f ((xs.take i).foldl f a) x)))
    (hd : ∀ l, St (xs.foldl f a) l → Q l) : (forM body xs l : Out L L' ρ).Is E R B' C' Q := by
  refine forM_is (fun i l => St ((xs.take i).foldl f a) l) h0 (fun i x l hx h => ?_) (fun l h => hd l (by rwa [List.take_length] at h))
  have e : (xs.take (i + 1)).foldl f a = f ((xs.take i).foldl f a) x := by rw [List.take_add_one, hx, List.foldl_append]; rfl
  rw [e]
  exact (h1 i x l hx h).mono (fun _ h => h) (fun _ h => h.elim) (fun _ h => h) (fun _ h => h)
/-- a for that keeps something true -/
theorem for_keep {body : ι → L → Out L L ρ} {B' C' : L' → Prop} {Q : L → Prop} {xs : List ι} {l : L} (St : L → Prop) (h0 : St l)
    (h1 : ∀ x l, x ∈ xs → St l → (body x l).Is E R (fun _ => False) St St) (hd : ∀ l, St l → Q l) : (forM body xs l : Out L L' ρ).Is E R B' C' Q :=
  forM_is (fun _ l => St l) h0 (fun i x l hx h => (h1 x l (List.mem_of_getElem? hx) h).mono (fun _ h => h) (fun _ h => h.elim) (fun _ h => h) (fun _ h => h)) (fun l h => hd l h)
theorem is_mIxD {α : Type} (d : α) {xs : List α} {i : Int} {Q : α → Prop} (h0 : 0 ≤ i) (h : i < (xs.length : Int)) (k : Q (xs.getD i.toNat d)) : (mIx xs i).Is E Q := by
  have hl : i.toNat < xs.length := by omega
  refine is_mIx (xs.getD i.toNat d) h0 ?_ k
  rw [List.getD_eq_getElem?_getD, List.getElem?_eq_getElem hl]; rfl
theorem irange_mem {lo hi x : Int} : x ∈ irange lo hi ↔ lo ≤ x ∧ x < hi := by
  unfold irange
  rw [List.mem_map]
  constructor
  · rintro ⟨i, h, rfl⟩
    have := List.mem_range.mp h
    omega
  · intro h
    exact ⟨(x - lo).toNat, List.mem_range.mpr (by omega), by omega⟩
theorem len_irange {n : Nat} : (irange 0 (n : Int)).length = n := by rw [irange_length]; omega
end
end TC
namespace W
open PySem PySem.Spec PyProof.Rows L2 TC
abbrev St := L2.St
def topS (i : Nat) : Stmt := PySem.Challenge.pw_covernets_k40_mail_steps.main.body.getD i (.Pass ⟨0, 0, 0, 0⟩)
abbrev RNet : Type := ((Unit × Int) × (List ((List Int) × (List Int) × (List Int))))
def dNet : RNet := (((), 0), [])
abbrev frNet : FR RNet := (frC (frC frNil "places" tInt) "transitions" (tTup (tP3 (tTup tInt) (tTup tInt) (tTup tInt))))
abbrev tyNet (C : Addr) : Ty RNet := tIns C frNet
structure NANet (K : PySem.W.Frag) (C : Addr) : Prop where
  places : NoAttr K C "places"
  transitions : NoAttr K C "transitions"
abbrev RMailNet : Type := (((Unit × RNet) × (List Int)) × (List ((List (Int × Int)) × (List (Int × Int)))))
def dMailNet : RMailNet := ((((), dNet), []), [])
abbrev frMailNet (CNet : Addr) : FR RMailNet := (frC (frC (frC frNil "net" (tyNet CNet)) "channels" (tTup tInt)) "actions" (tTup (tP2 (tTup (tP2 tInt tInt)) (tTup (tP2 tInt tInt)))))
abbrev tyMailNet (C : Addr) (CNet : Addr) : Ty RMailNet := tIns C (frMailNet CNet)
structure NAMailNet (K : PySem.W.Frag) (C : Addr) : Prop where
  net : NoAttr K C "net"
  channels : NoAttr K C "channels"
  actions : NoAttr K C "actions"
structure Uses (mg : Str → Option Value) : Prop where
  LOST : ∃ t, mg "LOST" = some (.int (-1 : Int) t)
  MOST_CHANNELS : ∃ t, mg "MOST_CHANNELS" = some (.int (2 : Int) t)
  MOST_LETTERS : ∃ t, mg "MOST_LETTERS" = some (.int (4 : Int) t)
  MOST_PLACES : ∃ t, mg "MOST_PLACES" = some (.int (12 : Int) t)
  MOST_TRANSITIONS : ∃ t, mg "MOST_TRANSITIONS" = some (.int (24 : Int) t)
  MOST_WEIGHT : ∃ t, mg "MOST_WEIGHT" = some (.int (9 : Int) t)
  bool : mg "bool" = none
  int : mg "int" = none
  isinstance : mg "isinstance" = none
  len : mg "len" = none
  list : mg "list" = none
  range : mg "range" = none
  set : mg "set" = none
  tuple : mg "tuple" = none
section
variable {P : Program} {w : World} {K : PySem.W.Frag} {mg : Str → Option Value} {base : Heap}
/-! ### covers -/
noncomputable def m_covers : (List Int) × (List Int) × Unit → Res Bool := kRun (S := (List Int) × (List Int) × Int × Unit) (S' := Unit) (L := Unit) (kSeq (kFor (kRange1 (kF (fun x => (x.length : Int)) (kV gZ))) (pS (pS pZ)) (kSeq (kIf (kCmp mLt (kB mIx (kV gZ) (kV (gS (gS gZ)))) (kB mIx (kV (gS gZ)) (kV (gS (gS gZ))))) (kRet (kC false)) kNx) kNx)) (kRet (kC true))) (iS (iS (iZ (0, ())))) (fun _ => .bad)
noncomputable def l_covers_1 : ((List Int) × (List Int) × Int × Unit) → Out ((List Int) × (List Int) × Int × Unit) ((List Int) × (List Int) × Int × Unit) Bool := (kSeq (kIf (kCmp mLt (kB mIx (kV gZ) (kV (gS (gS gZ)))) (kB mIx (kV (gS gZ)) (kV (gS (gS gZ))))) (kRet (kC false)) kNx) kNx)
theorem n_covers : m_covers = kRun (S := (List Int) × (List Int) × Int × Unit) (S' := Unit) (L := Unit) (kSeq (kFor (kRange1 (kF (fun x => (x.length : Int)) (kV gZ))) (pS (pS pZ)) l_covers_1) (kRet (kC true))) (iS (iS (iZ (0, ())))) (fun _ => .bad) := rfl
abbrev s_covers : Stmt := (topS 5)
theorem sc_covers : FnScope ["first", "second", "k"] ["first", "second"] (defScope s_covers) := ⟨rfl, rfl, rfl, by decide +kernel, rfl, by decide +kernel, by decide +kernel⟩
theorem ok_covers {f : Addr} {fd : FuncData} (D : DefAt K mg "covers" s_covers ["first", "second"] f fd) (U : Uses mg)  : FnOk P w K mg base (L2.CX P w) 1 f fd ["first", "second"] (spP (XRm mg) (acons (fz (tTup tInt)) (acons (fz (tTup tInt)) anil)) (fz tBool) m_covers) :=
  fn_okK (G1 := fun _ => gnil) D.F sc_covers rfl rfl (fun _ => (st_cons (st_cons (st_nil (any_cons any_nil))))) (fun _ => fall_bad) (fun _ cdv A outer s H E hr =>
    (ss_cons (sm_forI (passes_of rfl) rfl (im_range1 (by rfl) U.range (em_lenT (by rfl) U.len (em_var rfl (.inl rfl) At.z))) MvI.refl (tgt_name sc_covers.nd rfl (.inl rfl) (At.s (At.s At.z)) (.inl rfl)) (ss_cons (sm_if (tm_c cm_lt (nomark _) (em_ixT (fun _ _ => rfl) (em_var rfl (.inl rfl) At.z) (em_var rfl (.inl rfl) (At.s (At.s At.z)))) (em_ixT (fun _ _ => rfl) (em_var rfl (.inl rfl) (At.s At.z)) (em_var rfl (.inl rfl) (At.s (At.s At.z))))) (ss_one (sm_retP em_bool)) (ss_nilI MvI.refl)) (ss_nilI (MvI.cons SMvI.refl (MvI.cons SMvI.refl (MvI.cons SMvI.hide MvI.refl)))))) (ss_one (sm_retP em_bool))))
/-! ### all_from -/
noncomputable def m_all_from : (List Int) × Int × Int × Unit → Res Bool := kRun (S := (List Int) × Int × Int × Int × Unit) (S' := Unit) (L := Unit) (kSeq (kFor (kV gZ) (pS (pS (pS pZ))) (kSeq (kIf (kOr (kCmp mLt (kV (gS (gS (gS gZ)))) (kV (gS gZ))) (kCmp mGt (kV (gS (gS (gS gZ)))) (kV (gS (gS gZ))))) (kRet (kC false)) kNx) kNx)) (kRet (kC true))) (iS (iS (iS (iZ (0, ()))))) (fun _ => .bad)
noncomputable def l_all_from_1 : ((List Int) × Int × Int × Int × Unit) → Out ((List Int) × Int × Int × Int × Unit) ((List Int) × Int × Int × Int × Unit) Bool := (kSeq (kIf (kOr (kCmp mLt (kV (gS (gS (gS gZ)))) (kV (gS gZ))) (kCmp mGt (kV (gS (gS (gS gZ)))) (kV (gS (gS gZ))))) (kRet (kC false)) kNx) kNx)
theorem n_all_from : m_all_from = kRun (S := (List Int) × Int × Int × Int × Unit) (S' := Unit) (L := Unit) (kSeq (kFor (kV gZ) (pS (pS (pS pZ))) l_all_from_1) (kRet (kC true))) (iS (iS (iS (iZ (0, ()))))) (fun _ => .bad) := rfl
abbrev s_all_from : Stmt := (topS 11)
theorem sc_all_from : FnScope ["numbers", "low", "high", "number"] ["numbers", "low", "high"] (defScope s_all_from) := ⟨rfl, rfl, rfl, by decide +kernel, rfl, by decide +kernel, by decide +kernel⟩
theorem ok_all_from {f : Addr} {fd : FuncData} (D : DefAt K mg "all_from" s_all_from ["numbers", "low", "high"] f fd) (U : Uses mg)  : FnOk P w K mg base (L2.CX P w) 1 f fd ["numbers", "low", "high"] (spP (XRm mg) (acons (fz (tTup tInt)) (acons (fz tInt) (acons (fz tInt) anil))) (fz tBool) m_all_from) :=
  fn_okK (G1 := fun _ => gnil) D.F sc_all_from rfl rfl (fun _ => (st_cons (st_cons (st_cons (st_nil (any_cons any_nil)))))) (fun _ => fall_bad) (fun _ cdv A outer s H E hr =>
    (ss_cons (sm_forI (passes_of rfl) rfl (im_tup (em_var rfl (.inl rfl) At.z)) MvI.refl (tgt_name sc_all_from.nd rfl (.inl rfl) (At.s (At.s (At.s At.z))) (.inl rfl)) (ss_cons (sm_if (tm_b (bm_or (tm_c cm_lt (nomark _) (em_var rfl (.inl rfl) (At.s (At.s (At.s At.z)))) (em_var rfl (.inl rfl) (At.s At.z))) (bm_or1 (tm_c cm_gt (nomark _) (em_var rfl (.inl rfl) (At.s (At.s (At.s At.z)))) (em_var rfl (.inl rfl) (At.s (At.s At.z))))))) (ss_one (sm_retP em_bool)) (ss_nilI MvI.refl)) (ss_nilI (MvI.cons SMvI.refl (MvI.cons SMvI.refl (MvI.cons SMvI.refl (MvI.cons SMvI.hide MvI.refl))))))) (ss_one (sm_retP em_bool))))
/-! ### fits -/
noncomputable def m_fits : ((List Int) × (List Int) × (List Int)) × Int × Unit → Res Bool := kRun (S := ((List Int) × (List Int) × (List Int)) × Int × (List Int) × (List Int) × (List Int) × (List Int) × Unit) (S' := Unit) (L := Unit) (kSeq (kSet (kV gZ) (pC (pP (pS (pS (pS pZ))) (pP (pS (pS (pS (pS pZ)))) (pP (pS (pS (pS (pS (pS pZ))))) pN))) c3)) (kSeq (kFor (kF (fun x => [x.1, x.2.1, x.2.2]) (kV gZ)) (pS (pS pZ)) (kSeq (kIf (kCmp mNe (kF (fun x => (x.length : Int)) (kV (gS (gS gZ)))) (kV (gS gZ))) (kRet (kC false)) kNx) kNx)) (kSeq (kIf (kOr (kF (fun x => !x) (kU m_all_from (kPair (kV (gS (gS (gS gZ)))) (kPair (kC (0 : Int)) (kPair (kC (9 : Int)) kU0))))) (kF (fun x => !x) (kU m_all_from (kPair (kV (gS (gS (gS (gS gZ))))) (kPair (kC (0 : Int)) (kPair (kC (9 : Int)) kU0)))))) (kRet (kC false)) kNx) (kRet (kU m_all_from (kPair (kV (gS (gS (gS (gS (gS gZ)))))) (kPair (kC (-1 : Int)) (kPair (kB mSub (kV (gS gZ)) (kC (1 : Int))) kU0)))))))) (iS (iS (iZ ([], [], [], [], ())))) (fun _ => .bad)
noncomputable def l_fits_2 : (((List Int) × (List Int) × (List Int)) × Int × (List Int) × (List Int) × (List Int) × (List Int) × Unit) → Out (((List Int) × (List Int) × (List Int)) × Int × (List Int) × (List Int) × (List Int) × (List Int) × Unit) (((List Int) × (List Int) × (List Int)) × Int × (List Int) × (List Int) × (List Int) × (List Int) × Unit) Bool := (kSeq (kIf (kCmp mNe (kF (fun x => (x.length : Int)) (kV (gS (gS gZ)))) (kV (gS gZ))) (kRet (kC false)) kNx) kNx)
theorem n_fits : m_fits = kRun (S := ((List Int) × (List Int) × (List Int)) × Int × (List Int) × (List Int) × (List Int) × (List Int) × Unit) (S' := Unit) (L := Unit) (kSeq (kSet (kV gZ) (pC (pP (pS (pS (pS pZ))) (pP (pS (pS (pS (pS pZ)))) (pP (pS (pS (pS (pS (pS pZ))))) pN))) c3)) (kSeq (kFor (kF (fun x => [x.1, x.2.1, x.2.2]) (kV gZ)) (pS (pS pZ)) l_fits_2) (kSeq (kIf (kOr (kF (fun x => !x) (kU m_all_from (kPair (kV (gS (gS (gS gZ)))) (kPair (kC (0 : Int)) (kPair (kC (9 : Int)) kU0))))) (kF (fun x => !x) (kU m_all_from (kPair (kV (gS (gS (gS (gS gZ))))) (kPair (kC (0 : Int)) (kPair (kC (9 : Int)) kU0)))))) (kRet (kC false)) kNx) (kRet (kU m_all_from (kPair (kV (gS (gS (gS (gS (gS gZ)))))) (kPair (kC (-1 : Int)) (kPair (kB mSub (kV (gS gZ)) (kC (1 : Int))) kU0)))))))) (iS (iS (iZ ([], [], [], [], ())))) (fun _ => .bad) := rfl
abbrev s_fits : Stmt := (topS 12)
theorem sc_fits : FnScope ["transition", "places", "part", "takes", "gives", "moves"] ["transition", "places"] (defScope s_fits) := ⟨rfl, rfl, rfl, by decide +kernel, rfl, by decide +kernel, by decide +kernel⟩
theorem ok_fits {f : Addr} {fd : FuncData} (D : DefAt K mg "fits" s_fits ["transition", "places"] f fd) (U : Uses mg) {f_all_from : Addr} {fd_all_from : FuncData} (D_all_from : DefAt K mg "all_from" s_all_from ["numbers", "low", "high"] f_all_from fd_all_from) (G_all_from : FnOk P w K mg base (L2.CX P w) 1 f_all_from fd_all_from ["numbers", "low", "high"] (spP (XRm mg) (acons (fz (tTup tInt)) (acons (fz tInt) (acons (fz tInt) anil))) (fz tBool) m_all_from)) : FnOk P w K mg base (L2.CX P w) 2 f fd ["transition", "places"] (spP (XRm mg) (acons (fz (tP3 (tTup tInt) (tTup tInt) (tTup tInt))) (acons (fz tInt) anil)) (fz tBool) m_fits) :=
  fn_okK (G1 := fun _ => gnil) D.F sc_fits rfl rfl (fun _ => (st_cons (st_cons (st_nil (any_cons (any_cons (any_cons (any_cons any_nil)))))))) (fun _ => fall_bad) (fun _ cdv A outer s H E hr =>
    (ss_cons (sm_unpack (R := fz (tP3 (tTup tInt) (tTup tInt) (tTup tInt))) (tgt_3 (tgt_H rfl (tgs_cons (tgt_name sc_fits.nd rfl (.inl rfl) (At.s (At.s (At.s At.z))) (.inl rfl)) (tgs_cons (tgt_name sc_fits.nd rfl (.inl rfl) (At.s (At.s (At.s (At.s At.z)))) (.inl rfl)) (tgs_cons (tgt_name sc_fits.nd rfl (.inl rfl) (At.s (At.s (At.s (At.s (At.s At.z))))) (.inl rfl)) tgs_nil))) rfl (fun _ h => pg_tup rfl h))) (em_var rfl (.inl rfl) At.z) (fun _ _ h h2 => ps_asg h h2)) (ss_cons (sm_forI (passes_of rfl) rfl (im_tup (em_t3T (em_var rfl (.inl rfl) At.z))) MvI.refl (tgt_name sc_fits.nd rfl (.inl rfl) (At.s (At.s At.z)) (.inl rfl)) (ss_cons (sm_if (tm_c (cm_neS scInt) (nomark _) (em_lenT (by rfl) U.len (em_var rfl (.inl rfl) (At.s (At.s At.z)))) (em_var rfl (.inl rfl) (At.s At.z))) (ss_one (sm_retP em_bool)) (ss_nilI MvI.refl)) (ss_nilI (MvI.cons SMvI.refl (MvI.cons SMvI.refl (MvI.cons SMvI.hide MvI.refl)))))) (ss_cons (sm_if (tm_b (bm_or (tm_not (tm_val (em_call (takes_of rfl rfl rfl rfl) G_all_from (hr.mono (by decide)) (by rfl) D_all_from.g D_all_from.F.kp D_all_from.b (am_cons (em_var rfl (.inl rfl) (At.s (At.s (At.s At.z)))) (am_cons em_int (am_cons (em_globI (by rfl) U.MOST_WEIGHT) am_nil)))))) (bm_or1 (tm_not (tm_val (em_call (takes_of rfl rfl rfl rfl) G_all_from (hr.mono (by decide)) (by rfl) D_all_from.g D_all_from.F.kp D_all_from.b (am_cons (em_var rfl (.inl rfl) (At.s (At.s (At.s (At.s At.z))))) (am_cons em_int (am_cons (em_globI (by rfl) U.MOST_WEIGHT) am_nil))))))))) (ss_one (sm_retP em_bool)) (ss_nilI MvI.refl)) (ss_one (sm_retP (em_call (takes_of rfl rfl rfl rfl) G_all_from (hr.mono (by decide)) (by rfl) D_all_from.g D_all_from.F.kp D_all_from.b (am_cons (em_var rfl (.inl rfl) (At.s (At.s (At.s (At.s (At.s At.z)))))) (am_cons (em_globI (by rfl) U.LOST) (am_cons (em_subt (em_var rfl (.inl rfl) (At.s At.z)) em_int) am_nil))))))))))
/-! ### Net.__init__ -/
noncomputable def m_Net : Unit × Int × (List ((List Int) × (List Int) × (List Int))) × Unit → Res RNet := kRun (S := Unit × Int × (List ((List Int) × (List Int) × (List Int))) × Bool × ((List Int) × (List Int) × (List Int)) × (List Int) × (List Int) × (List Int) × Unit) (S' := RNet × Int × (List ((List Int) × (List Int) × (List Int))) × Bool × ((List Int) × (List Int) × (List Int)) × (List Int) × (List Int) × (List Int) × Unit) (L := Unit) (kSeq (kSet (kAnd (kChain mLe mLe (kC (1 : Int)) (kV (gS gZ)) (kC (12 : Int))) (kCmp mLe (kF (fun x => (x.length : Int)) (kV (gS (gS gZ)))) (kC (24 : Int)))) (pS (pS (pS pZ)))) (kSeq (kFor (kV (gS (gS gZ))) (pS (pS (pS (pS pZ)))) (kSeq (kSet (kAnd (kV (gS (gS (gS gZ)))) (kU m_fits (kPair (kV (gS (gS (gS (gS gZ))))) (kPair (kV (gS gZ)) kU0)))) (pS (pS (pS pZ)))) kNx)) (kSeq (kIf (kF (fun x => !x) (kV (gS (gS (gS gZ))))) kBad kNx) (kSeq (kFldNew gZ pZ (kV (gS gZ))) (kFldNew gZ pZ (kU (fun x => .ok x) (kLc (kV (gS (gS gZ))) (pC (pP (pS (pS (pS (pS (pS pZ))))) (pP (pS (pS (pS (pS (pS (pS pZ)))))) (pP (pS (pS (pS (pS (pS (pS (pS pZ))))))) pN))) c3) (kF (fun x => (x.1, x.2.1, x.2.2.1)) (kPair (kU (fun x => .ok x) (kV (gS (gS (gS (gS (gS gZ))))))) (kPair (kU (fun x => .ok x) (kV (gS (gS (gS (gS (gS (gS gZ)))))))) (kPair (kU (fun x => .ok x) (kV (gS (gS (gS (gS (gS (gS (gS gZ))))))))) kU0))))))))))) (iS (iS (iS (iZ (false, ([], [], []), [], [], [], ()))))) (fun s => .ok (gZ s))
noncomputable def l_Net_2 : (Unit × Int × (List ((List Int) × (List Int) × (List Int))) × Bool × ((List Int) × (List Int) × (List Int)) × (List Int) × (List Int) × (List Int) × Unit) → Out (Unit × Int × (List ((List Int) × (List Int) × (List Int))) × Bool × ((List Int) × (List Int) × (List Int)) × (List Int) × (List Int) × (List Int) × Unit) (Unit × Int × (List ((List Int) × (List Int) × (List Int))) × Bool × ((List Int) × (List Int) × (List Int)) × (List Int) × (List Int) × (List Int) × Unit) RNet := (kSeq (kSet (kAnd (kV (gS (gS (gS gZ)))) (kU m_fits (kPair (kV (gS (gS (gS (gS gZ))))) (kPair (kV (gS gZ)) kU0)))) (pS (pS (pS pZ)))) kNx)
theorem n_Net : m_Net = kRun (S := Unit × Int × (List ((List Int) × (List Int) × (List Int))) × Bool × ((List Int) × (List Int) × (List Int)) × (List Int) × (List Int) × (List Int) × Unit) (S' := RNet × Int × (List ((List Int) × (List Int) × (List Int))) × Bool × ((List Int) × (List Int) × (List Int)) × (List Int) × (List Int) × (List Int) × Unit) (L := Unit) (kSeq (kSet (kAnd (kChain mLe mLe (kC (1 : Int)) (kV (gS gZ)) (kC (12 : Int))) (kCmp mLe (kF (fun x => (x.length : Int)) (kV (gS (gS gZ)))) (kC (24 : Int)))) (pS (pS (pS pZ)))) (kSeq (kFor (kV (gS (gS gZ))) (pS (pS (pS (pS pZ)))) l_Net_2) (kSeq (kIf (kF (fun x => !x) (kV (gS (gS (gS gZ))))) kBad kNx) (kSeq (kFldNew gZ pZ (kV (gS gZ))) (kFldNew gZ pZ (kU (fun x => .ok x) (kLc (kV (gS (gS gZ))) (pC (pP (pS (pS (pS (pS (pS pZ))))) (pP (pS (pS (pS (pS (pS (pS pZ)))))) (pP (pS (pS (pS (pS (pS (pS (pS pZ))))))) pN))) c3) (kF (fun x => (x.1, x.2.1, x.2.2.1)) (kPair (kU (fun x => .ok x) (kV (gS (gS (gS (gS (gS gZ))))))) (kPair (kU (fun x => .ok x) (kV (gS (gS (gS (gS (gS (gS gZ)))))))) (kPair (kU (fun x => .ok x) (kV (gS (gS (gS (gS (gS (gS (gS gZ))))))))) kU0))))))))))) (iS (iS (iS (iZ (false, ([], [], []), [], [], [], ()))))) (fun s => .ok (gZ s)) := rfl
abbrev s_Net : Stmt := (inClass (topS 13) 0)
theorem sc_Net : FnScope ["self", "places", "transitions", "valid", "transition", "takes", "gives", "moves"] ["self", "places", "transitions"] (defScope s_Net) := ⟨rfl, rfl, rfl, by decide +kernel, rfl, by decide +kernel, by decide +kernel⟩
theorem ok_Net {C f : Addr} {fd : FuncData} (O : IniAt K mg "Net" "Net.__init__" s_Net ["self", "places", "transitions"] C f fd) (NNet : NANet K C) (U : Uses mg) {f_fits : Addr} {fd_fits : FuncData} (D_fits : DefAt K mg "fits" s_fits ["transition", "places"] f_fits fd_fits) (G_fits : FnOk P w K mg base (L2.CX P w) 2 f_fits fd_fits ["transition", "places"] (spP (XRm mg) (acons (fz (tP3 (tTup tInt) (tTup tInt) (tTup tInt))) (acons (fz tInt) anil)) (fz tBool) m_fits)) : FnOk P w K mg base (L2.CX P w) 3 f fd ["self", "places", "transitions"] (spI (XRm mg) C frNet (acons (fz tInt) (acons (fz (tLst (tP3 (tTup tInt) (tTup tInt) (tTup tInt)))) anil)) m_Net) :=
  fn_okK O.F sc_Net rfl rfl (fun ad => (st_cons (st_cons (st_cons (st_nil (any_cons (any_cons (any_cons (any_cons (any_cons any_nil)))))))))) (fun ad => (fall_ini At.z)) (fun ad cdv A outer s H E hr =>
    (ss_cons (sm_set sc_Net.nd rfl (.inl rfl) (At.s (At.s (At.s At.z))) (em_and (em_chain2 cm_le cm_le em_int (em_var rfl (.inl rfl) (At.s At.z)) (em_globI (by rfl) U.MOST_PLACES)) (em_one (em_c cm_le (nomark _) (em_len (by rfl) U.len (em_var rfl (.inl rfl) (At.s (At.s At.z)))) (em_globI (by rfl) U.MOST_TRANSITIONS)))) (hf := .inl rfl)) (ss_cons (sm_forI (passes_of rfl) rfl (im_list (em_var rfl (.inl rfl) (At.s (At.s At.z)))) MvI.refl (tgt_name sc_Net.nd rfl (.inl rfl) (At.s (At.s (At.s (At.s At.z)))) (.inl rfl)) (ss_cons (sm_set sc_Net.nd rfl (.inl rfl) (At.s (At.s (At.s At.z))) (em_and (em_var rfl (.inl rfl) (At.s (At.s (At.s At.z)))) (em_one (em_call (takes_of rfl rfl rfl rfl) G_fits (hr.mono (by decide)) (by rfl) D_fits.g D_fits.F.kp D_fits.b (am_cons (em_var rfl (.inl rfl) (At.s (At.s (At.s (At.s At.z))))) (am_cons (em_var rfl (.inl rfl) (At.s At.z)) am_nil))))) (hf := .inl rfl)) (ss_nilI (MvI.cons SMvI.refl (MvI.cons SMvI.refl (MvI.cons SMvI.refl (MvI.cons SMvI.refl (MvI.cons SMvI.hide MvI.refl)))))))) (ss_cons (sm_if (tm_not (tm_val (em_var rfl (.inl rfl) (At.s (At.s (At.s At.z)))))) (ss_one sm_never) (ss_nilI MvI.refl)) (ss_cons (sm_fldNew rfl (.inl rfl) At.z (em_var rfl (.inl rfl) (At.s At.z)) O.cl NNet.places (by show 0 < 1000; decide)) (ss_one (sm_fldNew rfl (.inl rfl) At.z (em_tupL (by rfl) U.tuple (em_freeze (em_lcK (own := [("takes", 5), ("gives", 6), ("moves", 7)]) rfl sc_Net.nd (im_list (em_var rfl (.inl rfl) (At.s (At.s At.z)))) (blkOk_by (N := ["self", "places", "transitions", "valid", "transition", "takes", "gives", "moves"]) (sc := (defScope s_Net)) (by decide +kernel)) (ko_keep (by decide) (ko_keep (by decide) (ko_keep (by decide) (ko_keep (by decide) (ko_any (ko_any (ko_any (ko_any ko_nil)))))))) (fun _ _ _ _ _ => (tgt_3 (tgt_H rfl (tgs_cons (tgt_name sc_Net.nd rfl (.inl (by rfl)) (At.s (At.s (At.s (At.s (At.s At.z))))) (.inr (by rfl))) (tgs_cons (tgt_name sc_Net.nd rfl (.inl (by rfl)) (At.s (At.s (At.s (At.s (At.s (At.s At.z)))))) (.inr (by rfl))) (tgs_cons (tgt_name sc_Net.nd rfl (.inl (by rfl)) (At.s (At.s (At.s (At.s (At.s (At.s (At.s At.z))))))) (.inr (by rfl))) tgs_nil))) rfl (fun _ h => pg_tup rfl h)))) (fun _ _ _ _ _ => (em_tup3 (am_cons (em_tupT (by rfl) U.tuple (em_var rfl (.inl (by rfl)) (At.s (At.s (At.s (At.s (At.s At.z))))))) (am_cons (em_tupT (by rfl) U.tuple (em_var rfl (.inl (by rfl)) (At.s (At.s (At.s (At.s (At.s (At.s At.z)))))))) (am_cons (em_tupT (by rfl) U.tuple (em_var rfl (.inl (by rfl)) (At.s (At.s (At.s (At.s (At.s (At.s (At.s At.z))))))))) am_nil))))) (bi_cons (bi_cons (bi_cons (bi_cons (bi_cons (bi_any (bi_any (bi_any bi_refl))))))))))) O.cl NNet.transitions (by show 1 < 1000; decide))))))))
/-! ### enabled -/
noncomputable def m_enabled : RNet × Int × (List Int) × Unit → Res Bool := kRun (S := RNet × Int × (List Int) × Unit) (S' := Unit) (L := Unit) (kRet (kU m_covers (kPair (kV (gS (gS gZ))) (kPair (kF (fun x => x.1) (kB mIx (kF (fun x => x.2) (kV gZ)) (kV (gS gZ)))) kU0)))) (iS (iS (iS (iZ ())))) (fun _ => .bad)
abbrev s_enabled : Stmt := (topS 14)
theorem sc_enabled : FnScope ["net", "index", "marking"] ["net", "index", "marking"] (defScope s_enabled) := ⟨rfl, rfl, rfl, by decide +kernel, rfl, by decide +kernel, by decide +kernel⟩
theorem ok_enabled {f : Addr} {fd : FuncData} (D : DefAt K mg "enabled" s_enabled ["net", "index", "marking"] f fd) (U : Uses mg) {CNet : Addr} {fi_Net : Addr} {fdi_Net : FuncData} (ONet : IniAt K mg "Net" "Net.__init__" s_Net ["self", "places", "transitions"] CNet fi_Net fdi_Net) (NNet : NANet K CNet) (I_Net : FnOk P w K mg base (L2.CX P w) 3 fi_Net fdi_Net ["self", "places", "transitions"] (spI (XRm mg) CNet frNet (acons (fz tInt) (acons (fz (tLst (tP3 (tTup tInt) (tTup tInt) (tTup tInt)))) anil)) m_Net)) {f_covers : Addr} {fd_covers : FuncData} (D_covers : DefAt K mg "covers" s_covers ["first", "second"] f_covers fd_covers) (G_covers : FnOk P w K mg base (L2.CX P w) 1 f_covers fd_covers ["first", "second"] (spP (XRm mg) (acons (fz (tTup tInt)) (acons (fz (tTup tInt)) anil)) (fz tBool) m_covers)) : FnOk P w K mg base (L2.CX P w) 2 f fd ["net", "index", "marking"] (spP (XRm mg) (acons (fz (tyNet CNet)) (acons (fz tInt) (acons (fz (tTup tInt)) anil))) (fz tBool) m_enabled) :=
  fn_okK (G1 := fun _ => gnil) D.F sc_enabled rfl rfl (fun _ => (st_cons (st_cons (st_cons (st_nil any_nil))))) (fun _ => fall_bad) (fun _ cdv A outer s H E hr =>
    (ss_one (sm_retP (em_call (takes_of rfl rfl rfl rfl) G_covers (hr.mono (by decide)) (by rfl) D_covers.g D_covers.F.kp D_covers.b (am_cons (em_var rfl (.inl rfl) (At.s (At.s At.z))) (am_cons (em_t0 (em_ixT (fun _ _ => rfl) (em_fld (em_var rfl (.inl rfl) At.z) has_z ONet.cl NNet.transitions) (em_var rfl (.inl rfl) (At.s At.z)))) am_nil))))))
/-! ### fire -/
noncomputable def m_fire : RNet × Int × (List Int) × Unit → Res (List Int) := kRun (S := RNet × Int × (List Int) × (List Int) × Int × (List Int) × (List Int) × (List Int) × Unit) (S' := Unit) (L := Unit) (kSeq (kIf (kF (fun x => !x) (kU m_enabled (kPair (kV gZ) (kPair (kV (gS gZ)) (kPair (kV (gS (gS gZ))) kU0))))) (kErN "NotEnabled" (kC (0 : Int))) kNx) (kSeq (kSet (kB mIx (kF (fun x => x.2) (kV gZ)) (kV (gS gZ))) (pC (pP (pS (pS (pS (pS (pS pZ))))) (pP (pS (pS (pS (pS (pS (pS pZ)))))) (pP (pS (pS (pS (pS (pS (pS (pS pZ))))))) pN))) c3)) (kSeq (kSet (kU (fun x => .ok x) (kV (gS (gS (gS (gS (gS (gS gZ)))))))) (pS (pS (pS pZ)))) (kSeq (kFor (kRange1 (kF (fun x => x.1.2) (kV gZ))) (pS (pS (pS (pS pZ)))) (kSeq (kIf (kCmp mNe (kB mIx (kV (gS (gS (gS (gS (gS (gS (gS gZ)))))))) (kV (gS (gS (gS (gS gZ)))))) (kC (-1 : Int))) (kAugIx (gS (gS (gS gZ))) (pS (pS (pS pZ))) (fun x y => x + y) (kB mIx (kV (gS (gS (gS (gS (gS (gS (gS gZ)))))))) (kV (gS (gS (gS (gS gZ)))))) (kB mSub (kB mIx (kV (gS (gS gZ))) (kV (gS (gS (gS (gS gZ)))))) (kB mIx (kV (gS (gS (gS (gS (gS gZ)))))) (kV (gS (gS (gS (gS gZ)))))))) kNx) kNx)) (kRet (kV (gS (gS (gS gZ))))))))) (iS (iS (iS (iZ ([], 0, [], [], [], ()))))) (fun _ => .bad)
noncomputable def l_fire_5 : (RNet × Int × (List Int) × (List Int) × Int × (List Int) × (List Int) × (List Int) × Unit) → Out (RNet × Int × (List Int) × (List Int) × Int × (List Int) × (List Int) × (List Int) × Unit) (RNet × Int × (List Int) × (List Int) × Int × (List Int) × (List Int) × (List Int) × Unit) (List Int) := (kSeq (kIf (kCmp mNe (kB mIx (kV (gS (gS (gS (gS (gS (gS (gS gZ)))))))) (kV (gS (gS (gS (gS gZ)))))) (kC (-1 : Int))) (kAugIx (gS (gS (gS gZ))) (pS (pS (pS pZ))) (fun x y => x + y) (kB mIx (kV (gS (gS (gS (gS (gS (gS (gS gZ)))))))) (kV (gS (gS (gS (gS gZ)))))) (kB mSub (kB mIx (kV (gS (gS gZ))) (kV (gS (gS (gS (gS gZ)))))) (kB mIx (kV (gS (gS (gS (gS (gS gZ)))))) (kV (gS (gS (gS (gS gZ)))))))) kNx) kNx)
theorem n_fire : m_fire = kRun (S := RNet × Int × (List Int) × (List Int) × Int × (List Int) × (List Int) × (List Int) × Unit) (S' := Unit) (L := Unit) (kSeq (kIf (kF (fun x => !x) (kU m_enabled (kPair (kV gZ) (kPair (kV (gS gZ)) (kPair (kV (gS (gS gZ))) kU0))))) (kErN "NotEnabled" (kC (0 : Int))) kNx) (kSeq (kSet (kB mIx (kF (fun x => x.2) (kV gZ)) (kV (gS gZ))) (pC (pP (pS (pS (pS (pS (pS pZ))))) (pP (pS (pS (pS (pS (pS (pS pZ)))))) (pP (pS (pS (pS (pS (pS (pS (pS pZ))))))) pN))) c3)) (kSeq (kSet (kU (fun x => .ok x) (kV (gS (gS (gS (gS (gS (gS gZ)))))))) (pS (pS (pS pZ)))) (kSeq (kFor (kRange1 (kF (fun x => x.1.2) (kV gZ))) (pS (pS (pS (pS pZ)))) l_fire_5) (kRet (kV (gS (gS (gS gZ))))))))) (iS (iS (iS (iZ ([], 0, [], [], [], ()))))) (fun _ => .bad) := rfl
abbrev s_fire : Stmt := (topS 15)
theorem sc_fire : FnScope ["net", "index", "marking", "found", "place", "takes", "gives", "moves"] ["net", "index", "marking"] (defScope s_fire) := ⟨rfl, rfl, rfl, by decide +kernel, rfl, by decide +kernel, by decide +kernel⟩
theorem ok_fire {f : Addr} {fd : FuncData} (D : DefAt K mg "fire" s_fire ["net", "index", "marking"] f fd) (U : Uses mg) {CNet : Addr} {fi_Net : Addr} {fdi_Net : FuncData} (ONet : IniAt K mg "Net" "Net.__init__" s_Net ["self", "places", "transitions"] CNet fi_Net fdi_Net) (NNet : NANet K CNet) (I_Net : FnOk P w K mg base (L2.CX P w) 3 fi_Net fdi_Net ["self", "places", "transitions"] (spI (XRm mg) CNet frNet (acons (fz tInt) (acons (fz (tLst (tP3 (tTup tInt) (tTup tInt) (tTup tInt)))) anil)) m_Net)) {f_enabled : Addr} {fd_enabled : FuncData} (D_enabled : DefAt K mg "enabled" s_enabled ["net", "index", "marking"] f_enabled fd_enabled) (G_enabled : FnOk P w K mg base (L2.CX P w) 2 f_enabled fd_enabled ["net", "index", "marking"] (spP (XRm mg) (acons (fz (tyNet CNet)) (acons (fz tInt) (acons (fz (tTup tInt)) anil))) (fz tBool) m_enabled)) {CNotEnabled fNotEnabled : Addr} (X_NotEnabled : ExNo P w K mg base "NotEnabled" CNotEnabled fNotEnabled) : FnOk P w K mg base (L2.CX P w) 3 f fd ["net", "index", "marking"] (spP (XRm mg) (acons (fz (tyNet CNet)) (acons (fz tInt) (acons (fz (tTup tInt)) anil))) (fz (tTup tInt)) m_fire) :=
  fn_okK (G1 := fun _ => gnil) D.F sc_fire rfl rfl (fun _ => (st_cons (st_cons (st_cons (st_nil (any_cons (any_cons (any_cons (any_cons (any_cons any_nil)))))))))) (fun _ => fall_bad) (fun _ cdv A outer s H E hr =>
    (ss_cons (sm_if (tm_not (tm_val (em_call (takes_of rfl rfl rfl rfl) G_enabled (hr.mono (by decide)) (by rfl) D_enabled.g D_enabled.F.kp D_enabled.b (am_cons (em_var rfl (.inl rfl) At.z) (am_cons (em_var rfl (.inl rfl) (At.s At.z)) (am_cons (em_var rfl (.inl rfl) (At.s (At.s At.z))) am_nil)))))) (ss_one (sm_raiseN rfl (takes_of rfl rfl rfl rfl) X_NotEnabled hr (by decide) rfl rfl (by rfl) em_int)) (ss_nilI MvI.refl)) (ss_cons (sm_unpack (R := fz (tP3 (tTup tInt) (tTup tInt) (tTup tInt))) (tgt_3 (tgt_H rfl (tgs_cons (tgt_name sc_fire.nd rfl (.inl rfl) (At.s (At.s (At.s (At.s (At.s At.z))))) (.inl rfl)) (tgs_cons (tgt_name sc_fire.nd rfl (.inl rfl) (At.s (At.s (At.s (At.s (At.s (At.s At.z)))))) (.inl rfl)) (tgs_cons (tgt_name sc_fire.nd rfl (.inl rfl) (At.s (At.s (At.s (At.s (At.s (At.s (At.s At.z))))))) (.inl rfl)) tgs_nil))) rfl (fun _ h => pg_tup rfl h))) (em_ixT (fun _ _ => rfl) (em_fld (em_var rfl (.inl rfl) At.z) has_z ONet.cl NNet.transitions) (em_var rfl (.inl rfl) (At.s At.z))) (fun _ _ h h2 => ps_asg h h2)) (ss_cons (sm_set sc_fire.nd rfl (.inl rfl) (At.s (At.s (At.s At.z))) (em_listT (by rfl) U.list (em_var rfl (.inl rfl) (At.s (At.s (At.s (At.s (At.s (At.s At.z)))))))) (hf := .inl rfl)) (ss_cons (sm_forI (passes_of rfl) rfl (im_range1 (by rfl) U.range (em_fld (em_var rfl (.inl rfl) At.z) (has_s (by decide +kernel) has_z) ONet.cl NNet.places)) MvI.refl (tgt_name sc_fire.nd rfl (.inl rfl) (At.s (At.s (At.s (At.s At.z)))) (.inl rfl)) (ss_cons (sm_if (tm_c (cm_neS scInt) (nomark _) (em_ixT (fun _ _ => rfl) (em_var rfl (.inl rfl) (At.s (At.s (At.s (At.s (At.s (At.s (At.s At.z)))))))) (em_var rfl (.inl rfl) (At.s (At.s (At.s (At.s At.z)))))) (em_globI (by rfl) U.LOST)) (ss_one (sm_augIx ip_add rfl (.inl rfl) (At.s (At.s (At.s At.z))) (em_subt (em_ixT (fun _ _ => rfl) (em_var rfl (.inl rfl) (At.s (At.s At.z))) (em_var rfl (.inl rfl) (At.s (At.s (At.s (At.s At.z)))))) (em_ixT (fun _ _ => rfl) (em_var rfl (.inl rfl) (At.s (At.s (At.s (At.s (At.s At.z)))))) (em_var rfl (.inl rfl) (At.s (At.s (At.s (At.s At.z))))))) (em_ixT (fun _ _ => rfl) (em_var rfl (.inl rfl) (At.s (At.s (At.s (At.s (At.s (At.s (At.s At.z)))))))) (em_var rfl (.inl rfl) (At.s (At.s (At.s (At.s At.z)))))) (fun _ _ _ h h2 h3 => ps_augS h2 h3 pget_list h ip_add set_list))) (ss_nilI MvI.refl)) (ss_nilI (MvI.cons SMvI.refl (MvI.cons SMvI.refl (MvI.cons SMvI.refl (MvI.cons SMvI.refl (MvI.cons SMvI.hide MvI.refl)))))))) (ss_one (sm_retP (em_tupO (by rfl) U.tuple rfl (.inl rfl) (At.s (At.s (At.s At.z)))))))))))
/-! ### right_pairs -/
noncomputable def m_right_pairs : (List (Int × Int)) × (List Int) × Unit → Res Bool := kRun (S := (List (Int × Int)) × (List Int) × Int × Int × Int × Unit) (S' := Unit) (L := Unit) (kSeq (kFor (kV gZ) (pP (pS (pS pZ)) (pS (pS (pS pZ)))) (kSeq (kIf (kOr (kCmp mLt (kV (gS (gS gZ))) (kC (0 : Int))) (kOr (kCmp mGe (kV (gS (gS gZ))) (kF (fun x => (x.length : Int)) (kV (gS gZ)))) (kOr (kCmp mLt (kV (gS (gS (gS gZ)))) (kC (0 : Int))) (kCmp mGe (kV (gS (gS (gS gZ)))) (kB mIx (kV (gS gZ)) (kV (gS (gS gZ)))))))) (kRet (kC false)) kNx) kNx)) (kRet (kCmp mEq (kU mDiff (kLc (kV gZ) (pP (pS (pS pZ)) (pS (pS (pS (pS pZ))))) (kV (gS (gS gZ))))) (kF (fun x => (x.length : Int)) (kV gZ))))) (iS (iS (iZ (0, 0, 0, ())))) (fun _ => .bad)
noncomputable def l_right_pairs_1 : ((List (Int × Int)) × (List Int) × Int × Int × Int × Unit) → Out ((List (Int × Int)) × (List Int) × Int × Int × Int × Unit) ((List (Int × Int)) × (List Int) × Int × Int × Int × Unit) Bool := (kSeq (kIf (kOr (kCmp mLt (kV (gS (gS gZ))) (kC (0 : Int))) (kOr (kCmp mGe (kV (gS (gS gZ))) (kF (fun x => (x.length : Int)) (kV (gS gZ)))) (kOr (kCmp mLt (kV (gS (gS (gS gZ)))) (kC (0 : Int))) (kCmp mGe (kV (gS (gS (gS gZ)))) (kB mIx (kV (gS gZ)) (kV (gS (gS gZ)))))))) (kRet (kC false)) kNx) kNx)
theorem n_right_pairs : m_right_pairs = kRun (S := (List (Int × Int)) × (List Int) × Int × Int × Int × Unit) (S' := Unit) (L := Unit) (kSeq (kFor (kV gZ) (pP (pS (pS pZ)) (pS (pS (pS pZ)))) l_right_pairs_1) (kRet (kCmp mEq (kU mDiff (kLc (kV gZ) (pP (pS (pS pZ)) (pS (pS (pS (pS pZ))))) (kV (gS (gS gZ))))) (kF (fun x => (x.length : Int)) (kV gZ))))) (iS (iS (iZ (0, 0, 0, ())))) (fun _ => .bad) := rfl
abbrev s_right_pairs : Stmt := (topS 19)
theorem sc_right_pairs : FnScope ["pairs", "channels", "channel", "letter", "_"] ["pairs", "channels"] (defScope s_right_pairs) := ⟨rfl, rfl, rfl, by decide +kernel, rfl, by decide +kernel, by decide +kernel⟩
theorem ok_right_pairs {f : Addr} {fd : FuncData} (D : DefAt K mg "right_pairs" s_right_pairs ["pairs", "channels"] f fd) (U : Uses mg)  : FnOk P w K mg base (L2.CX P w) 1 f fd ["pairs", "channels"] (spP (XRm mg) (acons (fz (tTup (tP2 tInt tInt))) (acons (fz (tLst tInt)) anil)) (fz tBool) m_right_pairs) :=
  fn_okK (G1 := fun _ => gnil) D.F sc_right_pairs rfl rfl (fun _ => (st_cons (st_cons (st_nil (any_cons (any_cons (any_cons any_nil))))))) (fun _ => fall_bad) (fun _ cdv A outer s H E hr =>
    (ss_cons (sm_forI (passes_of rfl) rfl (im_tup (em_var rfl (.inl rfl) At.z)) MvI.refl (tgt_pair rfl sc_right_pairs.nd rfl (.inl rfl) rfl (.inl rfl) (At.s (At.s At.z)) (At.s (At.s (At.s At.z))) (fun h h2 => pg_tup rfl (pgs_cons h (pgs_cons h2 pgs_nil))) (.inl rfl) (.inl rfl)) (ss_cons (sm_if (tm_b (bm_or (tm_c cm_lt (nomark _) (em_var rfl (.inl rfl) (At.s (At.s At.z))) em_int) (bm_or (tm_c cm_ge (nomark _) (em_var rfl (.inl rfl) (At.s (At.s At.z))) (em_len (by rfl) U.len (em_var rfl (.inl rfl) (At.s At.z)))) (bm_or (tm_c cm_lt (nomark _) (em_var rfl (.inl rfl) (At.s (At.s (At.s At.z)))) em_int) (bm_or1 (tm_c cm_ge (nomark _) (em_var rfl (.inl rfl) (At.s (At.s (At.s At.z)))) (em_ixL (fun _ _ => rfl) (em_var rfl (.inl rfl) (At.s At.z)) (em_var rfl (.inl rfl) (At.s (At.s At.z)))))))))) (ss_one (sm_retP em_bool)) (ss_nilI MvI.refl)) (ss_nilI (MvI.cons SMvI.refl (MvI.cons SMvI.refl (MvI.cons SMvI.hide (MvI.cons SMvI.hide MvI.refl))))))) (ss_one (sm_retP (em_c (cm_eqS scInt) (nomark _) (em_lenSet rfl (by rfl) U.len (by rfl) U.set (em_freeze (em_lcK (own := [("channel", 2), ("_", 4)]) rfl sc_right_pairs.nd (im_tup (em_var rfl (.inl rfl) At.z)) (blkOk_by (N := ["pairs", "channels", "channel", "letter", "_"]) (sc := (defScope s_right_pairs)) (by decide +kernel)) (ko_keep (by decide) (ko_keep (by decide) (ko_any (ko_any (ko_any ko_nil))))) (fun _ _ _ _ _ => (tgt_pair rfl sc_right_pairs.nd rfl (.inl (by rfl)) rfl (.inl (by rfl)) (At.s (At.s At.z)) (At.s (At.s (At.s (At.s At.z)))) (fun h h2 => pg_tup rfl (pgs_cons h (pgs_cons h2 pgs_nil))) (.inr (by rfl)) (.inr (by rfl)))) (fun _ _ _ _ _ => (em_var rfl (.inl (by rfl)) (At.s (At.s At.z)))) (bi_cons (bi_cons (bi_any (bi_cons (bi_any bi_refl)))))))) (em_lenT (by rfl) U.len (em_var rfl (.inl rfl) At.z)))))))
/-! ### pairs_of -/
noncomputable def m_pairs_of : (List (Int × Int)) × Unit → Res (List (Int × Int)) := kRun (S := (List (Int × Int)) × Int × Int × Unit) (S' := Unit) (L := Unit) (kRet (kU (fun x => .ok x) (kLc (kV gZ) (pP (pS pZ) (pS (pS pZ))) (kF (fun x => (x.1, x.2.1)) (kPair (kV (gS gZ)) (kPair (kV (gS (gS gZ))) kU0)))))) (iS (iZ (0, 0, ()))) (fun _ => .bad)
abbrev s_pairs_of : Stmt := (topS 21)
theorem sc_pairs_of : FnScope ["pairs", "channel", "letter"] ["pairs"] (defScope s_pairs_of) := ⟨rfl, rfl, rfl, by decide +kernel, rfl, by decide +kernel, by decide +kernel⟩
theorem ok_pairs_of {f : Addr} {fd : FuncData} (D : DefAt K mg "pairs_of" s_pairs_of ["pairs"] f fd) (U : Uses mg)  : FnOk P w K mg base (L2.CX P w) 1 f fd ["pairs"] (spP (XRm mg) (acons (fz (tTup (tP2 tInt tInt))) anil) (fz (tTup (tP2 tInt tInt))) m_pairs_of) :=
  fn_okK (G1 := fun _ => gnil) D.F sc_pairs_of rfl rfl (fun _ => (st_cons (st_nil (any_cons (any_cons any_nil))))) (fun _ => fall_bad) (fun _ cdv A outer s H E hr =>
    (ss_one (sm_retP (em_tupL (by rfl) U.tuple (em_freeze (em_lcK (own := [("channel", 1), ("letter", 2)]) rfl sc_pairs_of.nd (im_tup (em_var rfl (.inl rfl) At.z)) (blkOk_by (N := ["pairs", "channel", "letter"]) (sc := (defScope s_pairs_of)) (by decide +kernel)) (ko_keep (by decide) (ko_any (ko_any ko_nil))) (fun _ _ _ _ _ => (tgt_pair rfl sc_pairs_of.nd rfl (.inl (by rfl)) rfl (.inl (by rfl)) (At.s At.z) (At.s (At.s At.z)) (fun h h2 => pg_tup rfl (pgs_cons h (pgs_cons h2 pgs_nil))) (.inr (by rfl)) (.inr (by rfl)))) (fun _ _ _ _ _ => (em_tup2 (am_cons (em_var rfl (.inl (by rfl)) (At.s At.z)) (am_cons (em_var rfl (.inl (by rfl)) (At.s (At.s At.z))) am_nil)))) (bi_cons (bi_any (bi_any bi_refl)))))))))
/-! ### MailNet.__init__ -/
noncomputable def m_MailNet : Unit × RNet × (List Int) × (List ((List (Int × Int)) × (List (Int × Int)))) × Unit → Res RMailNet := kRun (S := Unit × RNet × (List Int) × (List ((List (Int × Int)) × (List (Int × Int)))) × Bool × Int × (List (Int × Int)) × (List (Int × Int)) × Unit) (S' := RMailNet × RNet × (List Int) × (List ((List (Int × Int)) × (List (Int × Int)))) × Bool × Int × (List (Int × Int)) × (List (Int × Int)) × Unit) (L := Unit) (kSeq (kSet (kAnd (kCmp mLe (kF (fun x => (x.length : Int)) (kV (gS (gS gZ)))) (kC (2 : Int))) (kCmp mEq (kF (fun x => (x.length : Int)) (kV (gS (gS (gS gZ))))) (kF (fun x => (x.length : Int)) (kF (fun x => x.2) (kV (gS gZ)))))) (pS (pS (pS (pS pZ))))) (kSeq (kFor (kV (gS (gS gZ))) (pS (pS (pS (pS (pS pZ))))) (kSeq (kSet (kAnd (kV (gS (gS (gS (gS gZ))))) (kChain mLe mLe (kC (1 : Int)) (kV (gS (gS (gS (gS (gS gZ)))))) (kC (4 : Int)))) (pS (pS (pS (pS pZ))))) kNx)) (kSeq (kFor (kV (gS (gS (gS gZ)))) (pP (pS (pS (pS (pS (pS (pS pZ)))))) (pS (pS (pS (pS (pS (pS (pS pZ)))))))) (kSeq (kSet (kAnd (kV (gS (gS (gS (gS gZ))))) (kAnd (kU m_right_pairs (kPair (kV (gS (gS (gS (gS (gS (gS gZ))))))) (kPair (kV (gS (gS gZ))) kU0))) (kU m_right_pairs (kPair (kV (gS (gS (gS (gS (gS (gS (gS gZ)))))))) (kPair (kV (gS (gS gZ))) kU0))))) (pS (pS (pS (pS pZ))))) kNx)) (kSeq (kIf (kF (fun x => !x) (kV (gS (gS (gS (gS gZ)))))) kBad kNx) (kSeq (kFldNew gZ pZ (kV (gS gZ))) (kSeq (kFldNew gZ pZ (kU (fun x => .ok x) (kV (gS (gS gZ))))) (kFldNew gZ pZ (kU (fun x => .ok x) (kLc (kV (gS (gS (gS gZ)))) (pP (pS (pS (pS (pS (pS (pS pZ)))))) (pS (pS (pS (pS (pS (pS (pS pZ)))))))) (kF (fun x => (x.1, x.2.1)) (kPair (kU m_pairs_of (kPair (kV (gS (gS (gS (gS (gS (gS gZ))))))) kU0)) (kPair (kU m_pairs_of (kPair (kV (gS (gS (gS (gS (gS (gS (gS gZ)))))))) kU0)) kU0)))))))))))) (iS (iS (iS (iS (iZ (false, 0, [], [], ())))))) (fun s => .ok (gZ s))
noncomputable def l_MailNet_2 : (Unit × RNet × (List Int) × (List ((List (Int × Int)) × (List (Int × Int)))) × Bool × Int × (List (Int × Int)) × (List (Int × Int)) × Unit) → Out (Unit × RNet × (List Int) × (List ((List (Int × Int)) × (List (Int × Int)))) × Bool × Int × (List (Int × Int)) × (List (Int × Int)) × Unit) (Unit × RNet × (List Int) × (List ((List (Int × Int)) × (List (Int × Int)))) × Bool × Int × (List (Int × Int)) × (List (Int × Int)) × Unit) RMailNet := (kSeq (kSet (kAnd (kV (gS (gS (gS (gS gZ))))) (kChain mLe mLe (kC (1 : Int)) (kV (gS (gS (gS (gS (gS gZ)))))) (kC (4 : Int)))) (pS (pS (pS (pS pZ))))) kNx)
noncomputable def l_MailNet_4 : (Unit × RNet × (List Int) × (List ((List (Int × Int)) × (List (Int × Int)))) × Bool × Int × (List (Int × Int)) × (List (Int × Int)) × Unit) → Out (Unit × RNet × (List Int) × (List ((List (Int × Int)) × (List (Int × Int)))) × Bool × Int × (List (Int × Int)) × (List (Int × Int)) × Unit) (Unit × RNet × (List Int) × (List ((List (Int × Int)) × (List (Int × Int)))) × Bool × Int × (List (Int × Int)) × (List (Int × Int)) × Unit) RMailNet := (kSeq (kSet (kAnd (kV (gS (gS (gS (gS gZ))))) (kAnd (kU m_right_pairs (kPair (kV (gS (gS (gS (gS (gS (gS gZ))))))) (kPair (kV (gS (gS gZ))) kU0))) (kU m_right_pairs (kPair (kV (gS (gS (gS (gS (gS (gS (gS gZ)))))))) (kPair (kV (gS (gS gZ))) kU0))))) (pS (pS (pS (pS pZ))))) kNx)
theorem n_MailNet : m_MailNet = kRun (S := Unit × RNet × (List Int) × (List ((List (Int × Int)) × (List (Int × Int)))) × Bool × Int × (List (Int × Int)) × (List (Int × Int)) × Unit) (S' := RMailNet × RNet × (List Int) × (List ((List (Int × Int)) × (List (Int × Int)))) × Bool × Int × (List (Int × Int)) × (List (Int × Int)) × Unit) (L := Unit) (kSeq (kSet (kAnd (kCmp mLe (kF (fun x => (x.length : Int)) (kV (gS (gS gZ)))) (kC (2 : Int))) (kCmp mEq (kF (fun x => (x.length : Int)) (kV (gS (gS (gS gZ))))) (kF (fun x => (x.length : Int)) (kF (fun x => x.2) (kV (gS gZ)))))) (pS (pS (pS (pS pZ))))) (kSeq (kFor (kV (gS (gS gZ))) (pS (pS (pS (pS (pS pZ))))) l_MailNet_2) (kSeq (kFor (kV (gS (gS (gS gZ)))) (pP (pS (pS (pS (pS (pS (pS pZ)))))) (pS (pS (pS (pS (pS (pS (pS pZ)))))))) l_MailNet_4) (kSeq (kIf (kF (fun x => !x) (kV (gS (gS (gS (gS gZ)))))) kBad kNx) (kSeq (kFldNew gZ pZ (kV (gS gZ))) (kSeq (kFldNew gZ pZ (kU (fun x => .ok x) (kV (gS (gS gZ))))) (kFldNew gZ pZ (kU (fun x => .ok x) (kLc (kV (gS (gS (gS gZ)))) (pP (pS (pS (pS (pS (pS (pS pZ)))))) (pS (pS (pS (pS (pS (pS (pS pZ)))))))) (kF (fun x => (x.1, x.2.1)) (kPair (kU m_pairs_of (kPair (kV (gS (gS (gS (gS (gS (gS gZ))))))) kU0)) (kPair (kU m_pairs_of (kPair (kV (gS (gS (gS (gS (gS (gS (gS gZ)))))))) kU0)) kU0)))))))))))) (iS (iS (iS (iS (iZ (false, 0, [], [], ())))))) (fun s => .ok (gZ s)) := rfl
abbrev s_MailNet : Stmt := (inClass (topS 20) 0)
theorem sc_MailNet : FnScope ["self", "net", "channels", "actions", "valid", "number", "hears", "sends"] ["self", "net", "channels", "actions"] (defScope s_MailNet) := ⟨rfl, rfl, rfl, by decide +kernel, rfl, by decide +kernel, by decide +kernel⟩
theorem ok_MailNet {C f : Addr} {fd : FuncData} (O : IniAt K mg "MailNet" "MailNet.__init__" s_MailNet ["self", "net", "channels", "actions"] C f fd) (NMailNet : NAMailNet K C) (U : Uses mg) {CNet : Addr} {fi_Net : Addr} {fdi_Net : FuncData} (ONet : IniAt K mg "Net" "Net.__init__" s_Net ["self", "places", "transitions"] CNet fi_Net fdi_Net) (NNet : NANet K CNet) (I_Net : FnOk P w K mg base (L2.CX P w) 3 fi_Net fdi_Net ["self", "places", "transitions"] (spI (XRm mg) CNet frNet (acons (fz tInt) (acons (fz (tLst (tP3 (tTup tInt) (tTup tInt) (tTup tInt)))) anil)) m_Net)) {f_pairs_of : Addr} {fd_pairs_of : FuncData} (D_pairs_of : DefAt K mg "pairs_of" s_pairs_of ["pairs"] f_pairs_of fd_pairs_of) (G_pairs_of : FnOk P w K mg base (L2.CX P w) 1 f_pairs_of fd_pairs_of ["pairs"] (spP (XRm mg) (acons (fz (tTup (tP2 tInt tInt))) anil) (fz (tTup (tP2 tInt tInt))) m_pairs_of)) {f_right_pairs : Addr} {fd_right_pairs : FuncData} (D_right_pairs : DefAt K mg "right_pairs" s_right_pairs ["pairs", "channels"] f_right_pairs fd_right_pairs) (G_right_pairs : FnOk P w K mg base (L2.CX P w) 1 f_right_pairs fd_right_pairs ["pairs", "channels"] (spP (XRm mg) (acons (fz (tTup (tP2 tInt tInt))) (acons (fz (tLst tInt)) anil)) (fz tBool) m_right_pairs)) : FnOk P w K mg base (L2.CX P w) 2 f fd ["self", "net", "channels", "actions"] (spI (XRm mg) C (frMailNet CNet) (acons (fz (tyNet CNet)) (acons (fz (tLst tInt)) (acons (fz (tLst (tP2 (tTup (tP2 tInt tInt)) (tTup (tP2 tInt tInt))))) anil))) m_MailNet) :=
  fn_okK O.F sc_MailNet rfl rfl (fun ad => (st_cons (st_cons (st_cons (st_cons (st_nil (any_cons (any_cons (any_cons (any_cons any_nil)))))))))) (fun ad => (fall_ini At.z)) (fun ad cdv A outer s H E hr =>
    (ss_cons (sm_set sc_MailNet.nd rfl (.inl rfl) (At.s (At.s (At.s (At.s At.z)))) (em_and (em_c cm_le (nomark _) (em_len (by rfl) U.len (em_var rfl (.inl rfl) (At.s (At.s At.z)))) (em_globI (by rfl) U.MOST_CHANNELS)) (em_one (em_c (cm_eqS scInt) (nomark _) (em_len (by rfl) U.len (em_var rfl (.inl rfl) (At.s (At.s (At.s At.z))))) (em_lenT (by rfl) U.len (em_fld (em_var rfl (.inl rfl) (At.s At.z)) has_z ONet.cl NNet.transitions))))) (hf := .inl rfl)) (ss_cons (sm_forI (passes_of rfl) rfl (im_list (em_var rfl (.inl rfl) (At.s (At.s At.z)))) MvI.refl (tgt_name sc_MailNet.nd rfl (.inl rfl) (At.s (At.s (At.s (At.s (At.s At.z))))) (.inl rfl)) (ss_cons (sm_set sc_MailNet.nd rfl (.inl rfl) (At.s (At.s (At.s (At.s At.z)))) (em_and (em_var rfl (.inl rfl) (At.s (At.s (At.s (At.s At.z))))) (em_one (em_chain2 cm_le cm_le em_int (em_var rfl (.inl rfl) (At.s (At.s (At.s (At.s (At.s At.z)))))) (em_globI (by rfl) U.MOST_LETTERS)))) (hf := .inl rfl)) (ss_nilI (MvI.cons SMvI.refl (MvI.cons SMvI.refl (MvI.cons SMvI.refl (MvI.cons SMvI.refl (MvI.cons SMvI.refl (MvI.cons SMvI.hide MvI.refl))))))))) (ss_cons (sm_forI (passes_of rfl) rfl (im_list (em_var rfl (.inl rfl) (At.s (At.s (At.s At.z))))) MvI.refl (tgt_pair rfl sc_MailNet.nd rfl (.inl rfl) rfl (.inl rfl) (At.s (At.s (At.s (At.s (At.s (At.s At.z)))))) (At.s (At.s (At.s (At.s (At.s (At.s (At.s At.z))))))) (fun h h2 => pg_tup rfl (pgs_cons h (pgs_cons h2 pgs_nil))) (.inl rfl) (.inl rfl)) (ss_cons (sm_set sc_MailNet.nd rfl (.inl rfl) (At.s (At.s (At.s (At.s At.z)))) (em_and (em_var rfl (.inl rfl) (At.s (At.s (At.s (At.s At.z))))) (em_and (em_call (takes_of rfl rfl rfl rfl) G_right_pairs (hr.mono (by decide)) (by rfl) D_right_pairs.g D_right_pairs.F.kp D_right_pairs.b (am_cons (em_var rfl (.inl rfl) (At.s (At.s (At.s (At.s (At.s (At.s At.z))))))) (am_cons (em_var rfl (.inl rfl) (At.s (At.s At.z))) am_nil))) (em_one (em_call (takes_of rfl rfl rfl rfl) G_right_pairs (hr.mono (by decide)) (by rfl) D_right_pairs.g D_right_pairs.F.kp D_right_pairs.b (am_cons (em_var rfl (.inl rfl) (At.s (At.s (At.s (At.s (At.s (At.s (At.s At.z)))))))) (am_cons (em_var rfl (.inl rfl) (At.s (At.s At.z))) am_nil)))))) (hf := .inl rfl)) (ss_nilI (MvI.cons SMvI.refl (MvI.cons SMvI.refl (MvI.cons SMvI.refl (MvI.cons SMvI.refl (MvI.cons SMvI.refl (MvI.cons SMvI.refl (MvI.cons SMvI.hide (MvI.cons SMvI.hide MvI.refl))))))))))) (ss_cons (sm_if (tm_not (tm_val (em_var rfl (.inl rfl) (At.s (At.s (At.s (At.s At.z))))))) (ss_one sm_never) (ss_nilI MvI.refl)) (ss_cons (sm_fldNew rfl (.inl rfl) At.z (em_var rfl (.inl rfl) (At.s At.z)) O.cl NMailNet.net (by show 0 < 1000; decide)) (ss_cons (sm_fldNew rfl (.inl rfl) At.z (em_tupL (by rfl) U.tuple (em_var rfl (.inl rfl) (At.s (At.s At.z)))) O.cl NMailNet.channels (by show 1 < 1000; decide)) (ss_one (sm_fldNew rfl (.inl rfl) At.z (em_tupL (by rfl) U.tuple (em_freeze (em_lcK (own := [("hears", 6), ("sends", 7)]) rfl sc_MailNet.nd (im_list (em_var rfl (.inl rfl) (At.s (At.s (At.s At.z))))) (blkOk_by (N := ["self", "net", "channels", "actions", "valid", "number", "hears", "sends"]) (sc := (defScope s_MailNet)) (by decide +kernel)) (ko_keep (by decide) (ko_keep (by decide) (ko_keep (by decide) (ko_keep (by decide) (ko_keep (by decide) (ko_any (ko_any (ko_any ko_nil)))))))) (fun _ _ _ _ _ => (tgt_pair rfl sc_MailNet.nd rfl (.inl (by rfl)) rfl (.inl (by rfl)) (At.s (At.s (At.s (At.s (At.s (At.s At.z)))))) (At.s (At.s (At.s (At.s (At.s (At.s (At.s At.z))))))) (fun h h2 => pg_tup rfl (pgs_cons h (pgs_cons h2 pgs_nil))) (.inr (by rfl)) (.inr (by rfl)))) (fun _ _ _ _ _ => (em_tup2 (am_cons (em_call takes0 G_pairs_of (hr.mono (by decide)) (by rfl) D_pairs_of.g D_pairs_of.F.kp D_pairs_of.b (am_cons (em_var rfl (.inl (by rfl)) (At.s (At.s (At.s (At.s (At.s (At.s At.z))))))) am_nil)) (am_cons (em_call takes0 G_pairs_of (hr.mono (by decide)) (by rfl) D_pairs_of.g D_pairs_of.F.kp D_pairs_of.b (am_cons (em_var rfl (.inl (by rfl)) (At.s (At.s (At.s (At.s (At.s (At.s (At.s At.z)))))))) am_nil)) am_nil)))) (bi_cons (bi_cons (bi_cons (bi_cons (bi_cons (bi_cons (bi_any (bi_any bi_refl))))))))))) O.cl NMailNet.actions (by show 2 < 1000; decide))))))))))
/-! ### can_fire -/
noncomputable def m_can_fire : RMailNet × ((List Int) × (List (List Int))) × Int × Unit → Res Bool := kRun (S := RMailNet × ((List Int) × (List (List Int))) × Int × (List Int) × (List (List Int)) × Int × Int × Unit) (S' := Unit) (L := Unit) (kSeq (kSet (kV (gS gZ)) (pP (pS (pS (pS pZ))) (pS (pS (pS (pS pZ)))))) (kSeq (kIf (kOr (kCmp mLt (kV (gS (gS gZ))) (kC (0 : Int))) (kOr (kCmp mGe (kV (gS (gS gZ))) (kF (fun x => (x.length : Int)) (kF (fun x => x.2) (kV gZ)))) (kF (fun x => !x) (kU m_enabled (kPair (kF (fun x => x.1.1.2) (kV gZ)) (kPair (kV (gS (gS gZ))) (kPair (kV (gS (gS (gS gZ)))) kU0))))))) (kRet (kC false)) kNx) (kSeq (kFor (kF (fun x => x.1) (kB mIx (kF (fun x => x.2) (kV gZ)) (kV (gS (gS gZ))))) (pP (pS (pS (pS (pS (pS pZ))))) (pS (pS (pS (pS (pS (pS pZ))))))) (kSeq (kIf (kCmp mNe (kCut (kB mIx (kV (gS (gS (gS (gS gZ))))) (kV (gS (gS (gS (gS (gS gZ))))))) (kC none) (kF some (kC (1 : Int)))) (kCons (kV (gS (gS (gS (gS (gS (gS gZ))))))) kNil)) (kRet (kC false)) kNx) kNx)) (kRet (kC true))))) (iS (iS (iS (iZ ([], [], 0, 0, ()))))) (fun _ => .bad)
noncomputable def l_can_fire_4 : (RMailNet × ((List Int) × (List (List Int))) × Int × (List Int) × (List (List Int)) × Int × Int × Unit) → Out (RMailNet × ((List Int) × (List (List Int))) × Int × (List Int) × (List (List Int)) × Int × Int × Unit) (RMailNet × ((List Int) × (List (List Int))) × Int × (List Int) × (List (List Int)) × Int × Int × Unit) Bool := (kSeq (kIf (kCmp mNe (kCut (kB mIx (kV (gS (gS (gS (gS gZ))))) (kV (gS (gS (gS (gS (gS gZ))))))) (kC none) (kF some (kC (1 : Int)))) (kCons (kV (gS (gS (gS (gS (gS (gS gZ))))))) kNil)) (kRet (kC false)) kNx) kNx)
theorem n_can_fire : m_can_fire = kRun (S := RMailNet × ((List Int) × (List (List Int))) × Int × (List Int) × (List (List Int)) × Int × Int × Unit) (S' := Unit) (L := Unit) (kSeq (kSet (kV (gS gZ)) (pP (pS (pS (pS pZ))) (pS (pS (pS (pS pZ)))))) (kSeq (kIf (kOr (kCmp mLt (kV (gS (gS gZ))) (kC (0 : Int))) (kOr (kCmp mGe (kV (gS (gS gZ))) (kF (fun x => (x.length : Int)) (kF (fun x => x.2) (kV gZ)))) (kF (fun x => !x) (kU m_enabled (kPair (kF (fun x => x.1.1.2) (kV gZ)) (kPair (kV (gS (gS gZ))) (kPair (kV (gS (gS (gS gZ)))) kU0))))))) (kRet (kC false)) kNx) (kSeq (kFor (kF (fun x => x.1) (kB mIx (kF (fun x => x.2) (kV gZ)) (kV (gS (gS gZ))))) (pP (pS (pS (pS (pS (pS pZ))))) (pS (pS (pS (pS (pS (pS pZ))))))) l_can_fire_4) (kRet (kC true))))) (iS (iS (iS (iZ ([], [], 0, 0, ()))))) (fun _ => .bad) := rfl
abbrev s_can_fire : Stmt := (topS 22)
theorem sc_can_fire : FnScope ["mail", "config", "index", "marking", "words", "channel", "letter"] ["mail", "config", "index"] (defScope s_can_fire) := ⟨rfl, rfl, rfl, by decide +kernel, rfl, by decide +kernel, by decide +kernel⟩
theorem ok_can_fire {f : Addr} {fd : FuncData} (D : DefAt K mg "can_fire" s_can_fire ["mail", "config", "index"] f fd) (U : Uses mg) {CNet : Addr} {fi_Net : Addr} {fdi_Net : FuncData} (ONet : IniAt K mg "Net" "Net.__init__" s_Net ["self", "places", "transitions"] CNet fi_Net fdi_Net) (NNet : NANet K CNet) {CMailNet : Addr} {fi_MailNet : Addr} {fdi_MailNet : FuncData} (OMailNet : IniAt K mg "MailNet" "MailNet.__init__" s_MailNet ["self", "net", "channels", "actions"] CMailNet fi_MailNet fdi_MailNet) (NMailNet : NAMailNet K CMailNet) (I_MailNet : FnOk P w K mg base (L2.CX P w) 2 fi_MailNet fdi_MailNet ["self", "net", "channels", "actions"] (spI (XRm mg) CMailNet (frMailNet CNet) (acons (fz (tyNet CNet)) (acons (fz (tLst tInt)) (acons (fz (tLst (tP2 (tTup (tP2 tInt tInt)) (tTup (tP2 tInt tInt))))) anil))) m_MailNet)) {f_enabled : Addr} {fd_enabled : FuncData} (D_enabled : DefAt K mg "enabled" s_enabled ["net", "index", "marking"] f_enabled fd_enabled) (G_enabled : FnOk P w K mg base (L2.CX P w) 2 f_enabled fd_enabled ["net", "index", "marking"] (spP (XRm mg) (acons (fz (tyNet CNet)) (acons (fz tInt) (acons (fz (tTup tInt)) anil))) (fz tBool) m_enabled)) : FnOk P w K mg base (L2.CX P w) 3 f fd ["mail", "config", "index"] (spP (XRm mg) (acons (fz (tyMailNet CMailNet CNet)) (acons (fz (tP2 (tTup tInt) (tTup (tTup tInt)))) (acons (fz tInt) anil))) (fz tBool) m_can_fire) :=
  fn_okK (G1 := fun _ => gnil) D.F sc_can_fire rfl rfl (fun _ => (st_cons (st_cons (st_cons (st_nil (any_cons (any_cons (any_cons (any_cons any_nil))))))))) (fun _ => fall_bad) (fun _ cdv A outer s H E hr =>
    (ss_cons (sm_unpack (R := fz (tP2 (tTup tInt) (tTup (tTup tInt)))) (tgt_pair rfl sc_can_fire.nd rfl (.inl rfl) rfl (.inl rfl) (At.s (At.s (At.s At.z))) (At.s (At.s (At.s (At.s At.z)))) (fun h h2 => pg_tup rfl (pgs_cons h (pgs_cons h2 pgs_nil))) (.inl rfl) (.inl rfl)) (em_var rfl (.inl rfl) (At.s At.z)) (fun _ _ h h2 => ps_asg h h2)) (ss_cons (sm_if (tm_b (bm_or (tm_c cm_lt (nomark _) (em_var rfl (.inl rfl) (At.s (At.s At.z))) em_int) (bm_or (tm_c cm_ge (nomark _) (em_var rfl (.inl rfl) (At.s (At.s At.z))) (em_lenT (by rfl) U.len (em_fld (em_var rfl (.inl rfl) At.z) has_z OMailNet.cl NMailNet.actions))) (bm_or1 (tm_not (tm_val (em_call (takes_of rfl rfl rfl rfl) G_enabled (hr.mono (by decide)) (by rfl) D_enabled.g D_enabled.F.kp D_enabled.b (am_cons (em_fld (em_var rfl (.inl rfl) At.z) (has_s (by decide +kernel) (has_s (by decide +kernel) has_z)) OMailNet.cl NMailNet.net) (am_cons (em_var rfl (.inl rfl) (At.s (At.s At.z))) (am_cons (em_var rfl (.inl rfl) (At.s (At.s (At.s At.z)))) am_nil)))))))))) (ss_one (sm_retP em_bool)) (ss_nilI MvI.refl)) (ss_cons (sm_forI (passes_of rfl) rfl (im_tup (em_p0 (em_ixT (fun _ _ => rfl) (em_fld (em_var rfl (.inl rfl) At.z) has_z OMailNet.cl NMailNet.actions) (em_var rfl (.inl rfl) (At.s (At.s At.z)))))) MvI.refl (tgt_pair rfl sc_can_fire.nd rfl (.inl rfl) rfl (.inl rfl) (At.s (At.s (At.s (At.s (At.s At.z))))) (At.s (At.s (At.s (At.s (At.s (At.s At.z)))))) (fun h h2 => pg_tup rfl (pgs_cons h (pgs_cons h2 pgs_nil))) (.inl rfl) (.inl rfl)) (ss_cons (sm_if (tm_c (cm_neD (eqTup eqInt) hr.units (by show (0 + 1) ≤ 64; decide)) (nomark _) (em_cutT (em_ixT (fun _ _ => rfl) (em_var rfl (.inl rfl) (At.s (At.s (At.s (At.s At.z))))) (em_var rfl (.inl rfl) (At.s (At.s (At.s (At.s (At.s At.z))))))) om_none (om_some em_int)) (em_tupN (am_hcons (em_var rfl (.inl rfl) (At.s (At.s (At.s (At.s (At.s (At.s At.z))))))) (am_hnil (T := tInt))) (ln_cons ln_nil) (by decide))) (ss_one (sm_retP em_bool)) (ss_nilI MvI.refl)) (ss_nilI (MvI.cons SMvI.refl (MvI.cons SMvI.refl (MvI.cons SMvI.refl (MvI.cons SMvI.refl (MvI.cons SMvI.refl (MvI.cons SMvI.hide (MvI.cons SMvI.hide MvI.refl)))))))))) (ss_one (sm_retP em_bool))))))
/-! ### can_take -/
noncomputable def m_can_take : RMailNet × ((List Int) × (List (List Int))) × (((List Nat) × Int × Int) ⊕ ((List Nat) × Int)) × Unit → Res Bool := kRun (S := RMailNet × ((List Int) × (List (List Int))) × (((List Nat) × Int × Int) ⊕ ((List Nat) × Int)) × (List Nat) × Int × Int × Unit) (S' := Unit) (L := Unit) (kSeq (kIf (kCmp mEq (kU (mAlt (fun x => .ok x.1) (fun x => .ok x.1)) (kV (gS (gS gZ)))) (kC ([102, 105, 114, 101] : List Nat))) (kRet (kU m_can_fire (kPair (kV gZ) (kPair (kV (gS gZ)) (kPair (kU (mAlt (fun x => .ok x.2.1) (fun x => .ok x.2)) (kV (gS (gS gZ)))) kU0))))) kNx) (kSeq (kSet (kU mInl (kV (gS (gS gZ)))) (pC (pP (pS (pS (pS pZ))) (pP (pS (pS (pS (pS pZ)))) (pP (pS (pS (pS (pS (pS pZ))))) pN))) c3)) (kSeq (kIf (kOr (kCmp mLt (kV (gS (gS (gS (gS gZ))))) (kC (0 : Int))) (kCmp mGe (kV (gS (gS (gS (gS gZ))))) (kF (fun x => (x.length : Int)) (kF (fun x => x.1.2) (kV gZ))))) (kRet (kC false)) kNx) (kRet (kChain mLe mLt (kC (0 : Int)) (kV (gS (gS (gS (gS (gS gZ)))))) (kF (fun x => (x.length : Int)) (kB mIx (kF (fun x => x.2) (kV (gS gZ))) (kV (gS (gS (gS (gS gZ)))))))))))) (iS (iS (iS (iZ ([], 0, 0, ()))))) (fun _ => .bad)
abbrev s_can_take : Stmt := (topS 23)
theorem sc_can_take : FnScope ["mail", "config", "step", "_", "channel", "position"] ["mail", "config", "step"] (defScope s_can_take) := ⟨rfl, rfl, rfl, by decide +kernel, rfl, by decide +kernel, by decide +kernel⟩
theorem ok_can_take {f : Addr} {fd : FuncData} (D : DefAt K mg "can_take" s_can_take ["mail", "config", "step"] f fd) (U : Uses mg) {CNet : Addr} {fi_Net : Addr} {fdi_Net : FuncData} (ONet : IniAt K mg "Net" "Net.__init__" s_Net ["self", "places", "transitions"] CNet fi_Net fdi_Net) (NNet : NANet K CNet) {CMailNet : Addr} {fi_MailNet : Addr} {fdi_MailNet : FuncData} (OMailNet : IniAt K mg "MailNet" "MailNet.__init__" s_MailNet ["self", "net", "channels", "actions"] CMailNet fi_MailNet fdi_MailNet) (NMailNet : NAMailNet K CMailNet) (I_MailNet : FnOk P w K mg base (L2.CX P w) 2 fi_MailNet fdi_MailNet ["self", "net", "channels", "actions"] (spI (XRm mg) CMailNet (frMailNet CNet) (acons (fz (tyNet CNet)) (acons (fz (tLst tInt)) (acons (fz (tLst (tP2 (tTup (tP2 tInt tInt)) (tTup (tP2 tInt tInt))))) anil))) m_MailNet)) {f_can_fire : Addr} {fd_can_fire : FuncData} (D_can_fire : DefAt K mg "can_fire" s_can_fire ["mail", "config", "index"] f_can_fire fd_can_fire) (G_can_fire : FnOk P w K mg base (L2.CX P w) 3 f_can_fire fd_can_fire ["mail", "config", "index"] (spP (XRm mg) (acons (fz (tyMailNet CMailNet CNet)) (acons (fz (tP2 (tTup tInt) (tTup (tTup tInt)))) (acons (fz tInt) anil))) (fz tBool) m_can_fire)) : FnOk P w K mg base (L2.CX P w) 4 f fd ["mail", "config", "step"] (spP (XRm mg) (acons (fz (tyMailNet CMailNet CNet)) (acons (fz (tP2 (tTup tInt) (tTup (tTup tInt)))) (acons (fz (tAlt (tP3 tTxt tInt tInt) (tP2 tTxt tInt))) anil))) (fz tBool) m_can_take) :=
  fn_okK (G1 := fun _ => gnil) D.F sc_can_take rfl rfl (fun _ => (st_cons (st_cons (st_cons (st_nil (any_cons (any_cons (any_cons any_nil)))))))) (fun _ => fall_bad) (fun _ cdv A outer s H E hr =>
    (ss_cons (sm_if (tm_c (cm_eqS scTxt) (nomark _) (em_ixAlt (R := fz tTxt) o2_t0 o2_p0 (fun _ _ => okne) (fun _ _ => okne) (em_var rfl (.inl rfl) (At.s (At.s At.z)))) (em_txt (x := ([102, 105, 114, 101] : List Nat)) (by decide +kernel) (by decide))) (ss_one (sm_retP (em_call (takes_of rfl rfl rfl rfl) G_can_fire (hr.mono (by decide)) (by rfl) D_can_fire.g D_can_fire.F.kp D_can_fire.b (am_cons (em_var rfl (.inl rfl) At.z) (am_cons (em_var rfl (.inl rfl) (At.s At.z)) (am_cons (em_ixAlt (R := fz tInt) o2_t1 o2_p1 (fun _ _ => okne) (fun _ _ => okne) (em_var rfl (.inl rfl) (At.s (At.s At.z)))) am_nil)))))) (ss_nilI MvI.refl)) (ss_cons (sm_unpack (R := fz (tP3 tTxt tInt tInt)) (tgt_3 (tgt_H rfl (tgs_cons (tgt_name sc_can_take.nd rfl (.inl rfl) (At.s (At.s (At.s At.z))) (.inl rfl)) (tgs_cons (tgt_name sc_can_take.nd rfl (.inl rfl) (At.s (At.s (At.s (At.s At.z)))) (.inl rfl)) (tgs_cons (tgt_name sc_can_take.nd rfl (.inl rfl) (At.s (At.s (At.s (At.s (At.s At.z))))) (.inl rfl)) tgs_nil))) rfl (fun _ h => pg_tup rfl h))) (em_getL (em_var rfl (.inl rfl) (At.s (At.s At.z)))) (fun _ _ h h2 => ps_asg h h2)) (ss_cons (sm_if (tm_b (bm_or (tm_c cm_lt (nomark _) (em_var rfl (.inl rfl) (At.s (At.s (At.s (At.s At.z))))) em_int) (bm_or1 (tm_c cm_ge (nomark _) (em_var rfl (.inl rfl) (At.s (At.s (At.s (At.s At.z))))) (em_lenT (by rfl) U.len (em_fld (em_var rfl (.inl rfl) At.z) (has_s (by decide +kernel) has_z) OMailNet.cl NMailNet.channels)))))) (ss_one (sm_retP em_bool)) (ss_nilI MvI.refl)) (ss_one (sm_retP (em_chain2 cm_le cm_lt em_int (em_var rfl (.inl rfl) (At.s (At.s (At.s (At.s (At.s At.z)))))) (em_lenT (by rfl) U.len (em_ixT (fun _ _ => rfl) (em_p1 (em_var rfl (.inl rfl) (At.s At.z))) (em_var rfl (.inl rfl) (At.s (At.s (At.s (At.s At.z))))))))))))))
/-! ### fire_mail -/
noncomputable def m_fire_mail : RMailNet × ((List Int) × (List (List Int))) × Int × Unit → Res ((List Int) × (List (List Int))) := kRun (S := RMailNet × ((List Int) × (List (List Int))) × Int × (List (List Int)) × (List Int) × (List (List Int)) × (List (Int × Int)) × (List (Int × Int)) × Int × Int × Int × Unit) (S' := Unit) (L := Unit) (kSeq (kSet (kV (gS gZ)) (pP (pS (pS (pS (pS pZ)))) (pS (pS (pS (pS (pS pZ))))))) (kSeq (kSet (kB mIx (kF (fun x => x.2) (kV gZ)) (kV (gS (gS gZ)))) (pP (pS (pS (pS (pS (pS (pS pZ)))))) (pS (pS (pS (pS (pS (pS (pS pZ))))))))) (kSeq (kSet (kU (fun x => .ok x) (kV (gS (gS (gS (gS (gS gZ))))))) (pS (pS (pS pZ)))) (kSeq (kFor (kV (gS (gS (gS (gS (gS (gS gZ))))))) (pP (pS (pS (pS (pS (pS (pS (pS (pS pZ)))))))) (pS (pS (pS (pS (pS (pS (pS (pS (pS pZ)))))))))) (kSeq (kStore (gS (gS (gS gZ))) (pS (pS (pS pZ))) (kCut (kIxO (gS (gS (gS gZ))) (kV (gS (gS (gS (gS (gS (gS (gS (gS gZ)))))))))) (kF some (kC (1 : Int))) (kC none)) (kV (gS (gS (gS (gS (gS (gS (gS (gS gZ)))))))))) kNx)) (kSeq (kFor (kV (gS (gS (gS (gS (gS (gS (gS gZ)))))))) (pP (pS (pS (pS (pS (pS (pS (pS (pS pZ)))))))) (pS (pS (pS (pS (pS (pS (pS (pS (pS (pS pZ))))))))))) (kSeq (kStore (gS (gS (gS gZ))) (pS (pS (pS pZ))) (kB mCat (kIxO (gS (gS (gS gZ))) (kV (gS (gS (gS (gS (gS (gS (gS (gS gZ)))))))))) (kCons (kV (gS (gS (gS (gS (gS (gS (gS (gS (gS (gS gZ))))))))))) kNil)) (kV (gS (gS (gS (gS (gS (gS (gS (gS gZ)))))))))) kNx)) (kRet (kF (fun x => (x.1, x.2.1)) (kPair (kU m_fire (kPair (kF (fun x => x.1.1.2) (kV gZ)) (kPair (kV (gS (gS gZ))) (kPair (kV (gS (gS (gS (gS gZ))))) kU0)))) (kPair (kV (gS (gS (gS gZ)))) kU0))))))))) (iS (iS (iS (iZ ([], [], [], [], [], 0, 0, 0, ()))))) (fun _ => .bad)
noncomputable def l_fire_mail_4 : (RMailNet × ((List Int) × (List (List Int))) × Int × (List (List Int)) × (List Int) × (List (List Int)) × (List (Int × Int)) × (List (Int × Int)) × Int × Int × Int × Unit) → Out (RMailNet × ((List Int) × (List (List Int))) × Int × (List (List Int)) × (List Int) × (List (List Int)) × (List (Int × Int)) × (List (Int × Int)) × Int × Int × Int × Unit) (RMailNet × ((List Int) × (List (List Int))) × Int × (List (List Int)) × (List Int) × (List (List Int)) × (List (Int × Int)) × (List (Int × Int)) × Int × Int × Int × Unit) ((List Int) × (List (List Int))) := (kSeq (kStore (gS (gS (gS gZ))) (pS (pS (pS pZ))) (kCut (kIxO (gS (gS (gS gZ))) (kV (gS (gS (gS (gS (gS (gS (gS (gS gZ)))))))))) (kF some (kC (1 : Int))) (kC none)) (kV (gS (gS (gS (gS (gS (gS (gS (gS gZ)))))))))) kNx)
noncomputable def l_fire_mail_6 : (RMailNet × ((List Int) × (List (List Int))) × Int × (List (List Int)) × (List Int) × (List (List Int)) × (List (Int × Int)) × (List (Int × Int)) × Int × Int × Int × Unit) → Out (RMailNet × ((List Int) × (List (List Int))) × Int × (List (List Int)) × (List Int) × (List (List Int)) × (List (Int × Int)) × (List (Int × Int)) × Int × Int × Int × Unit) (RMailNet × ((List Int) × (List (List Int))) × Int × (List (List Int)) × (List Int) × (List (List Int)) × (List (Int × Int)) × (List (Int × Int)) × Int × Int × Int × Unit) ((List Int) × (List (List Int))) := (kSeq (kStore (gS (gS (gS gZ))) (pS (pS (pS pZ))) (kB mCat (kIxO (gS (gS (gS gZ))) (kV (gS (gS (gS (gS (gS (gS (gS (gS gZ)))))))))) (kCons (kV (gS (gS (gS (gS (gS (gS (gS (gS (gS (gS gZ))))))))))) kNil)) (kV (gS (gS (gS (gS (gS (gS (gS (gS gZ)))))))))) kNx)
theorem n_fire_mail : m_fire_mail = kRun (S := RMailNet × ((List Int) × (List (List Int))) × Int × (List (List Int)) × (List Int) × (List (List Int)) × (List (Int × Int)) × (List (Int × Int)) × Int × Int × Int × Unit) (S' := Unit) (L := Unit) (kSeq (kSet (kV (gS gZ)) (pP (pS (pS (pS (pS pZ)))) (pS (pS (pS (pS (pS pZ))))))) (kSeq (kSet (kB mIx (kF (fun x => x.2) (kV gZ)) (kV (gS (gS gZ)))) (pP (pS (pS (pS (pS (pS (pS pZ)))))) (pS (pS (pS (pS (pS (pS (pS pZ))))))))) (kSeq (kSet (kU (fun x => .ok x) (kV (gS (gS (gS (gS (gS gZ))))))) (pS (pS (pS pZ)))) (kSeq (kFor (kV (gS (gS (gS (gS (gS (gS gZ))))))) (pP (pS (pS (pS (pS (pS (pS (pS (pS pZ)))))))) (pS (pS (pS (pS (pS (pS (pS (pS (pS pZ)))))))))) l_fire_mail_4) (kSeq (kFor (kV (gS (gS (gS (gS (gS (gS (gS gZ)))))))) (pP (pS (pS (pS (pS (pS (pS (pS (pS pZ)))))))) (pS (pS (pS (pS (pS (pS (pS (pS (pS (pS pZ))))))))))) l_fire_mail_6) (kRet (kF (fun x => (x.1, x.2.1)) (kPair (kU m_fire (kPair (kF (fun x => x.1.1.2) (kV gZ)) (kPair (kV (gS (gS gZ))) (kPair (kV (gS (gS (gS (gS gZ))))) kU0)))) (kPair (kV (gS (gS (gS gZ)))) kU0))))))))) (iS (iS (iS (iZ ([], [], [], [], [], 0, 0, 0, ()))))) (fun _ => .bad) := rfl
abbrev s_fire_mail : Stmt := (topS 24)
theorem sc_fire_mail : FnScope ["mail", "config", "index", "after", "marking", "words", "hears", "sends", "channel", "_", "letter"] ["mail", "config", "index"] (defScope s_fire_mail) := ⟨rfl, rfl, rfl, by decide +kernel, rfl, by decide +kernel, by decide +kernel⟩
theorem ok_fire_mail {f : Addr} {fd : FuncData} (D : DefAt K mg "fire_mail" s_fire_mail ["mail", "config", "index"] f fd) (U : Uses mg) {CNet : Addr} {fi_Net : Addr} {fdi_Net : FuncData} (ONet : IniAt K mg "Net" "Net.__init__" s_Net ["self", "places", "transitions"] CNet fi_Net fdi_Net) (NNet : NANet K CNet) {CMailNet : Addr} {fi_MailNet : Addr} {fdi_MailNet : FuncData} (OMailNet : IniAt K mg "MailNet" "MailNet.__init__" s_MailNet ["self", "net", "channels", "actions"] CMailNet fi_MailNet fdi_MailNet) (NMailNet : NAMailNet K CMailNet) (I_MailNet : FnOk P w K mg base (L2.CX P w) 2 fi_MailNet fdi_MailNet ["self", "net", "channels", "actions"] (spI (XRm mg) CMailNet (frMailNet CNet) (acons (fz (tyNet CNet)) (acons (fz (tLst tInt)) (acons (fz (tLst (tP2 (tTup (tP2 tInt tInt)) (tTup (tP2 tInt tInt))))) anil))) m_MailNet)) {f_fire : Addr} {fd_fire : FuncData} (D_fire : DefAt K mg "fire" s_fire ["net", "index", "marking"] f_fire fd_fire) (G_fire : FnOk P w K mg base (L2.CX P w) 3 f_fire fd_fire ["net", "index", "marking"] (spP (XRm mg) (acons (fz (tyNet CNet)) (acons (fz tInt) (acons (fz (tTup tInt)) anil))) (fz (tTup tInt)) m_fire)) : FnOk P w K mg base (L2.CX P w) 4 f fd ["mail", "config", "index"] (spP (XRm mg) (acons (fz (tyMailNet CMailNet CNet)) (acons (fz (tP2 (tTup tInt) (tTup (tTup tInt)))) (acons (fz tInt) anil))) (fz (tP2 (tTup tInt) (tTup (tTup tInt)))) m_fire_mail) :=
  fn_okK (G1 := fun _ => gnil) D.F sc_fire_mail rfl rfl (fun _ => (st_cons (st_cons (st_cons (st_nil (any_cons (any_cons (any_cons (any_cons (any_cons (any_cons (any_cons (any_cons any_nil))))))))))))) (fun _ => fall_bad) (fun _ cdv A outer s H E hr =>
    (ss_cons (sm_unpack (R := fz (tP2 (tTup tInt) (tTup (tTup tInt)))) (tgt_pair rfl sc_fire_mail.nd rfl (.inl rfl) rfl (.inl rfl) (At.s (At.s (At.s (At.s At.z)))) (At.s (At.s (At.s (At.s (At.s At.z))))) (fun h h2 => pg_tup rfl (pgs_cons h (pgs_cons h2 pgs_nil))) (.inl rfl) (.inl rfl)) (em_var rfl (.inl rfl) (At.s At.z)) (fun _ _ h h2 => ps_asg h h2)) (ss_cons (sm_unpack (R := fz (tP2 (tTup (tP2 tInt tInt)) (tTup (tP2 tInt tInt)))) (tgt_pair rfl sc_fire_mail.nd rfl (.inl rfl) rfl (.inl rfl) (At.s (At.s (At.s (At.s (At.s (At.s At.z)))))) (At.s (At.s (At.s (At.s (At.s (At.s (At.s At.z))))))) (fun h h2 => pg_tup rfl (pgs_cons h (pgs_cons h2 pgs_nil))) (.inl rfl) (.inl rfl)) (em_ixT (fun _ _ => rfl) (em_fld (em_var rfl (.inl rfl) At.z) has_z OMailNet.cl NMailNet.actions) (em_var rfl (.inl rfl) (At.s (At.s At.z)))) (fun _ _ h h2 => ps_asg h h2)) (ss_cons (sm_set sc_fire_mail.nd rfl (.inl rfl) (At.s (At.s (At.s At.z))) (em_listT (by rfl) U.list (em_var rfl (.inl rfl) (At.s (At.s (At.s (At.s (At.s At.z))))))) (hf := .inl rfl)) (ss_cons (sm_forI (passes_of rfl) rfl (im_tup (em_var rfl (.inl rfl) (At.s (At.s (At.s (At.s (At.s (At.s At.z)))))))) MvI.refl (tgt_pair rfl sc_fire_mail.nd rfl (.inl rfl) rfl (.inl rfl) (At.s (At.s (At.s (At.s (At.s (At.s (At.s (At.s At.z)))))))) (At.s (At.s (At.s (At.s (At.s (At.s (At.s (At.s (At.s At.z))))))))) (fun h h2 => pg_tup rfl (pgs_cons h (pgs_cons h2 pgs_nil))) (.inl rfl) (.inl rfl)) (ss_cons (sm_setIx rfl (.inl rfl) (At.s (At.s (At.s At.z))) (em_cutT (em_ixO rfl (.inl rfl) (At.s (At.s (At.s At.z))) (fun _ _ => rfl) (em_var rfl (.inl rfl) (At.s (At.s (At.s (At.s (At.s (At.s (At.s (At.s At.z)))))))))) (om_some em_int) om_none) (em_var rfl (.inl rfl) (At.s (At.s (At.s (At.s (At.s (At.s (At.s (At.s At.z))))))))) (fun _ _ _ h h2 h3 => ps_asg h (pg_sub h2 h3 set_list))) (ss_nilI (MvI.cons SMvI.refl (MvI.cons SMvI.refl (MvI.cons SMvI.refl (MvI.cons SMvI.refl (MvI.cons SMvI.refl (MvI.cons SMvI.refl (MvI.cons SMvI.refl (MvI.cons SMvI.refl (MvI.cons SMvI.hide (MvI.cons SMvI.hide MvI.refl))))))))))))) (ss_cons (sm_forI (passes_of rfl) rfl (im_tup (em_var rfl (.inl rfl) (At.s (At.s (At.s (At.s (At.s (At.s (At.s At.z))))))))) MvI.refl (tgt_pair rfl sc_fire_mail.nd rfl (.inl rfl) rfl (.inl rfl) (At.s (At.s (At.s (At.s (At.s (At.s (At.s (At.s At.z)))))))) (At.s (At.s (At.s (At.s (At.s (At.s (At.s (At.s (At.s (At.s At.z)))))))))) (fun h h2 => pg_tup rfl (pgs_cons h (pgs_cons h2 pgs_nil))) (.inl rfl) (.inl rfl)) (ss_cons (sm_setIx rfl (.inl rfl) (At.s (At.s (At.s At.z))) (em_catT (em_ixO rfl (.inl rfl) (At.s (At.s (At.s At.z))) (fun _ _ => rfl) (em_var rfl (.inl rfl) (At.s (At.s (At.s (At.s (At.s (At.s (At.s (At.s At.z)))))))))) (em_tupN (am_hcons (em_var rfl (.inl rfl) (At.s (At.s (At.s (At.s (At.s (At.s (At.s (At.s (At.s (At.s At.z))))))))))) (am_hnil (T := tInt))) (ln_cons ln_nil) (by decide))) (em_var rfl (.inl rfl) (At.s (At.s (At.s (At.s (At.s (At.s (At.s (At.s At.z))))))))) (fun _ _ _ h h2 h3 => ps_asg h (pg_sub h2 h3 set_list))) (ss_nilI (MvI.cons SMvI.refl (MvI.cons SMvI.refl (MvI.cons SMvI.refl (MvI.cons SMvI.refl (MvI.cons SMvI.refl (MvI.cons SMvI.refl (MvI.cons SMvI.refl (MvI.cons SMvI.refl (MvI.cons SMvI.hide (MvI.cons SMvI.refl (MvI.cons SMvI.hide MvI.refl)))))))))))))) (ss_one (sm_retP (em_tup2 (am_cons (em_call (takes_of rfl rfl rfl rfl) G_fire (hr.mono (by decide)) (by rfl) D_fire.g D_fire.F.kp D_fire.b (am_cons (em_fld (em_var rfl (.inl rfl) At.z) (has_s (by decide +kernel) (has_s (by decide +kernel) has_z)) OMailNet.cl NMailNet.net) (am_cons (em_var rfl (.inl rfl) (At.s (At.s At.z))) (am_cons (em_var rfl (.inl rfl) (At.s (At.s (At.s (At.s At.z))))) am_nil)))) (am_cons (em_tupO (by rfl) U.tuple rfl (.inl rfl) (At.s (At.s (At.s At.z)))) am_nil)))))))))))
/-! ### without -/
noncomputable def m_without : (List Int) × Int × Unit → Res (List Int) := kRun (S := (List Int) × Int × Unit) (S' := Unit) (L := Unit) (kRet (kB mCat (kCut (kV gZ) (kC none) (kF some (kV (gS gZ)))) (kCut (kV gZ) (kF some (kB mAdd (kV (gS gZ)) (kC (1 : Int)))) (kC none)))) (iS (iS (iZ ()))) (fun _ => .bad)
abbrev s_without : Stmt := (topS 25)
theorem sc_without : FnScope ["word", "position"] ["word", "position"] (defScope s_without) := ⟨rfl, rfl, rfl, by decide +kernel, rfl, by decide +kernel, by decide +kernel⟩
theorem ok_without {f : Addr} {fd : FuncData} (D : DefAt K mg "without" s_without ["word", "position"] f fd) (U : Uses mg)  : FnOk P w K mg base (L2.CX P w) 1 f fd ["word", "position"] (spP (XRm mg) (acons (fz (tTup tInt)) (acons (fz tInt) anil)) (fz (tTup tInt)) m_without) :=
  fn_okK (G1 := fun _ => gnil) D.F sc_without rfl rfl (fun _ => (st_cons (st_cons (st_nil any_nil)))) (fun _ => fall_bad) (fun _ cdv A outer s H E hr =>
    (ss_one (sm_retP (em_catT (em_cutT (em_var rfl (.inl rfl) At.z) om_none (om_some (em_var rfl (.inl rfl) (At.s At.z)))) (em_cutT (em_var rfl (.inl rfl) At.z) (om_some (em_add (em_var rfl (.inl rfl) (At.s At.z)) em_int)) om_none)))))
/-! ### take_mail -/
noncomputable def m_take_mail : RMailNet × ((List Int) × (List (List Int))) × (List (((List Nat) × Int × Int) ⊕ ((List Nat) × Int))) × Unit → Res ((List Int) × (List (List Int))) := kRun (S := RMailNet × ((List Int) × (List (List Int))) × (List (((List Nat) × Int × Int) ⊕ ((List Nat) × Int))) × Int × (List (List Int)) × (List Nat) × Int × Int × Unit) (S' := Unit) (L := Unit) (kSeq (kFor (kRange1 (kF (fun x => (x.length : Int)) (kV (gS (gS gZ))))) (pS (pS (pS pZ))) (kSeq (kIf (kF (fun x => !x) (kU m_can_take (kPair (kV gZ) (kPair (kV (gS gZ)) (kPair (kB mIx (kV (gS (gS gZ))) (kV (gS (gS (gS gZ))))) kU0))))) (kErN "NotEnabled" (kV (gS (gS (gS gZ))))) kNx) (kSeq (kIf (kCmp mEq (kU (mAlt (fun x => .ok x.1) (fun x => .ok x.1)) (kB mIx (kV (gS (gS gZ))) (kV (gS (gS (gS gZ)))))) (kC ([102, 105, 114, 101] : List Nat))) (kSet (kU m_fire_mail (kPair (kV gZ) (kPair (kV (gS gZ)) (kPair (kU (mAlt (fun x => .ok x.2.1) (fun x => .ok x.2)) (kB mIx (kV (gS (gS gZ))) (kV (gS (gS (gS gZ)))))) kU0)))) (pS pZ)) (kSeq (kSet (kU mInl (kB mIx (kV (gS (gS gZ))) (kV (gS (gS (gS gZ)))))) (pC (pP (pS (pS (pS (pS (pS pZ))))) (pP (pS (pS (pS (pS (pS (pS pZ)))))) (pP (pS (pS (pS (pS (pS (pS (pS pZ))))))) pN))) c3)) (kSeq (kSet (kU (fun x => .ok x) (kF (fun x => x.2) (kV (gS gZ)))) (pS (pS (pS (pS pZ))))) (kSeq (kStore (gS (gS (gS (gS gZ)))) (pS (pS (pS (pS pZ)))) (kU m_without (kPair (kIxO (gS (gS (gS (gS gZ)))) (kV (gS (gS (gS (gS (gS (gS gZ)))))))) (kPair (kV (gS (gS (gS (gS (gS (gS (gS gZ)))))))) kU0))) (kV (gS (gS (gS (gS (gS (gS gZ)))))))) (kSeq (kSet (kF (fun x => (x.1, x.2.1)) (kPair (kF (fun x => x.1) (kV (gS gZ))) (kPair (kV (gS (gS (gS (gS gZ))))) kU0))) (pS pZ)) kNx))))) kNx))) (kRet (kV (gS gZ)))) (iS (iS (iS (iZ (0, [], [], 0, 0, ()))))) (fun _ => .bad)
noncomputable def l_take_mail_1 : (RMailNet × ((List Int) × (List (List Int))) × (List (((List Nat) × Int × Int) ⊕ ((List Nat) × Int))) × Int × (List (List Int)) × (List Nat) × Int × Int × Unit) → Out (RMailNet × ((List Int) × (List (List Int))) × (List (((List Nat) × Int × Int) ⊕ ((List Nat) × Int))) × Int × (List (List Int)) × (List Nat) × Int × Int × Unit) (RMailNet × ((List Int) × (List (List Int))) × (List (((List Nat) × Int × Int) ⊕ ((List Nat) × Int))) × Int × (List (List Int)) × (List Nat) × Int × Int × Unit) ((List Int) × (List (List Int))) := (kSeq (kIf (kF (fun x => !x) (kU m_can_take (kPair (kV gZ) (kPair (kV (gS gZ)) (kPair (kB mIx (kV (gS (gS gZ))) (kV (gS (gS (gS gZ))))) kU0))))) (kErN "NotEnabled" (kV (gS (gS (gS gZ))))) kNx) (kSeq (kIf (kCmp mEq (kU (mAlt (fun x => .ok x.1) (fun x => .ok x.1)) (kB mIx (kV (gS (gS gZ))) (kV (gS (gS (gS gZ)))))) (kC ([102, 105, 114, 101] : List Nat))) (kSet (kU m_fire_mail (kPair (kV gZ) (kPair (kV (gS gZ)) (kPair (kU (mAlt (fun x => .ok x.2.1) (fun x => .ok x.2)) (kB mIx (kV (gS (gS gZ))) (kV (gS (gS (gS gZ)))))) kU0)))) (pS pZ)) (kSeq (kSet (kU mInl (kB mIx (kV (gS (gS gZ))) (kV (gS (gS (gS gZ)))))) (pC (pP (pS (pS (pS (pS (pS pZ))))) (pP (pS (pS (pS (pS (pS (pS pZ)))))) (pP (pS (pS (pS (pS (pS (pS (pS pZ))))))) pN))) c3)) (kSeq (kSet (kU (fun x => .ok x) (kF (fun x => x.2) (kV (gS gZ)))) (pS (pS (pS (pS pZ))))) (kSeq (kStore (gS (gS (gS (gS gZ)))) (pS (pS (pS (pS pZ)))) (kU m_without (kPair (kIxO (gS (gS (gS (gS gZ)))) (kV (gS (gS (gS (gS (gS (gS gZ)))))))) (kPair (kV (gS (gS (gS (gS (gS (gS (gS gZ)))))))) kU0))) (kV (gS (gS (gS (gS (gS (gS gZ)))))))) (kSeq (kSet (kF (fun x => (x.1, x.2.1)) (kPair (kF (fun x => x.1) (kV (gS gZ))) (kPair (kV (gS (gS (gS (gS gZ))))) kU0))) (pS pZ)) kNx))))) kNx))
theorem n_take_mail : m_take_mail = kRun (S := RMailNet × ((List Int) × (List (List Int))) × (List (((List Nat) × Int × Int) ⊕ ((List Nat) × Int))) × Int × (List (List Int)) × (List Nat) × Int × Int × Unit) (S' := Unit) (L := Unit) (kSeq (kFor (kRange1 (kF (fun x => (x.length : Int)) (kV (gS (gS gZ))))) (pS (pS (pS pZ))) l_take_mail_1) (kRet (kV (gS gZ)))) (iS (iS (iS (iZ (0, [], [], 0, 0, ()))))) (fun _ => .bad) := rfl
abbrev s_take_mail : Stmt := (topS 26)
theorem sc_take_mail : FnScope ["mail", "config", "steps", "k", "words", "_", "channel", "position"] ["mail", "config", "steps"] (defScope s_take_mail) := ⟨rfl, rfl, rfl, by decide +kernel, rfl, by decide +kernel, by decide +kernel⟩
theorem ok_take_mail {f : Addr} {fd : FuncData} (D : DefAt K mg "take_mail" s_take_mail ["mail", "config", "steps"] f fd) (U : Uses mg) {CNet : Addr} {fi_Net : Addr} {fdi_Net : FuncData} (ONet : IniAt K mg "Net" "Net.__init__" s_Net ["self", "places", "transitions"] CNet fi_Net fdi_Net) (NNet : NANet K CNet) {CMailNet : Addr} {fi_MailNet : Addr} {fdi_MailNet : FuncData} (OMailNet : IniAt K mg "MailNet" "MailNet.__init__" s_MailNet ["self", "net", "channels", "actions"] CMailNet fi_MailNet fdi_MailNet) (NMailNet : NAMailNet K CMailNet) {f_can_take : Addr} {fd_can_take : FuncData} (D_can_take : DefAt K mg "can_take" s_can_take ["mail", "config", "step"] f_can_take fd_can_take) (G_can_take : FnOk P w K mg base (L2.CX P w) 4 f_can_take fd_can_take ["mail", "config", "step"] (spP (XRm mg) (acons (fz (tyMailNet CMailNet CNet)) (acons (fz (tP2 (tTup tInt) (tTup (tTup tInt)))) (acons (fz (tAlt (tP3 tTxt tInt tInt) (tP2 tTxt tInt))) anil))) (fz tBool) m_can_take)) {f_fire_mail : Addr} {fd_fire_mail : FuncData} (D_fire_mail : DefAt K mg "fire_mail" s_fire_mail ["mail", "config", "index"] f_fire_mail fd_fire_mail) (G_fire_mail : FnOk P w K mg base (L2.CX P w) 4 f_fire_mail fd_fire_mail ["mail", "config", "index"] (spP (XRm mg) (acons (fz (tyMailNet CMailNet CNet)) (acons (fz (tP2 (tTup tInt) (tTup (tTup tInt)))) (acons (fz tInt) anil))) (fz (tP2 (tTup tInt) (tTup (tTup tInt)))) m_fire_mail)) {f_without : Addr} {fd_without : FuncData} (D_without : DefAt K mg "without" s_without ["word", "position"] f_without fd_without) (G_without : FnOk P w K mg base (L2.CX P w) 1 f_without fd_without ["word", "position"] (spP (XRm mg) (acons (fz (tTup tInt)) (acons (fz tInt) anil)) (fz (tTup tInt)) m_without)) {CNotEnabled fNotEnabled : Addr} (X_NotEnabled : ExNo P w K mg base "NotEnabled" CNotEnabled fNotEnabled) : FnOk P w K mg base (L2.CX P w) 5 f fd ["mail", "config", "steps"] (spP (XRm mg) (acons (fz (tyMailNet CMailNet CNet)) (acons (fz (tP2 (tTup tInt) (tTup (tTup tInt)))) (acons (fz (tLst (tAlt (tP3 tTxt tInt tInt) (tP2 tTxt tInt)))) anil))) (fz (tP2 (tTup tInt) (tTup (tTup tInt)))) m_take_mail) :=
  fn_okK (G1 := fun _ => gnil) D.F sc_take_mail rfl rfl (fun _ => (st_cons (st_cons (st_cons (st_nil (any_cons (any_cons (any_cons (any_cons (any_cons any_nil)))))))))) (fun _ => fall_bad) (fun _ cdv A outer s H E hr =>
    (ss_cons (sm_forI (passes_of rfl) rfl (im_range1 (by rfl) U.range (em_len (by rfl) U.len (em_var rfl (.inl rfl) (At.s (At.s At.z))))) MvI.refl (tgt_name sc_take_mail.nd rfl (.inl rfl) (At.s (At.s (At.s At.z))) (.inl rfl)) (ss_cons (sm_if (tm_not (tm_val (em_call (takes_of rfl rfl rfl rfl) G_can_take (hr.mono (by decide)) (by rfl) D_can_take.g D_can_take.F.kp D_can_take.b (am_cons (em_var rfl (.inl rfl) At.z) (am_cons (em_var rfl (.inl rfl) (At.s At.z)) (am_cons (em_ixL (fun _ _ => rfl) (em_var rfl (.inl rfl) (At.s (At.s At.z))) (em_var rfl (.inl rfl) (At.s (At.s (At.s At.z))))) am_nil)))))) (ss_one (sm_raiseN rfl (takes_of rfl rfl rfl rfl) X_NotEnabled hr (by decide) rfl rfl (by rfl) (em_var rfl (.inl rfl) (At.s (At.s (At.s At.z)))))) (ss_nilI MvI.refl)) (ss_cons (sm_if (tm_c (cm_eqS scTxt) (nomark _) (em_ixAlt (R := fz tTxt) o2_t0 o2_p0 (fun _ _ => okne) (fun _ _ => okne) (em_ixL (fun _ _ => rfl) (em_var rfl (.inl rfl) (At.s (At.s At.z))) (em_var rfl (.inl rfl) (At.s (At.s (At.s At.z)))))) (em_txt (x := ([102, 105, 114, 101] : List Nat)) (by decide +kernel) (by decide))) (ss_one (sm_set sc_take_mail.nd rfl (.inl rfl) (At.s At.z) (em_call (takes_of rfl rfl rfl rfl) G_fire_mail (hr.mono (by decide)) (by rfl) D_fire_mail.g D_fire_mail.F.kp D_fire_mail.b (am_cons (em_var rfl (.inl rfl) At.z) (am_cons (em_var rfl (.inl rfl) (At.s At.z)) (am_cons (em_ixAlt (R := fz tInt) o2_t1 o2_p1 (fun _ _ => okne) (fun _ _ => okne) (em_ixL (fun _ _ => rfl) (em_var rfl (.inl rfl) (At.s (At.s At.z))) (em_var rfl (.inl rfl) (At.s (At.s (At.s At.z)))))) am_nil)))) (hf := .inl rfl))) (ss_cons (sm_unpack (R := fz (tP3 tTxt tInt tInt)) (tgt_3 (tgt_H rfl (tgs_cons (tgt_name sc_take_mail.nd rfl (.inl rfl) (At.s (At.s (At.s (At.s (At.s At.z))))) (.inl rfl)) (tgs_cons (tgt_name sc_take_mail.nd rfl (.inl rfl) (At.s (At.s (At.s (At.s (At.s (At.s At.z)))))) (.inl rfl)) (tgs_cons (tgt_name sc_take_mail.nd rfl (.inl rfl) (At.s (At.s (At.s (At.s (At.s (At.s (At.s At.z))))))) (.inl rfl)) tgs_nil))) rfl (fun _ h => pg_tup rfl h))) (em_getL (em_ixL (fun _ _ => rfl) (em_var rfl (.inl rfl) (At.s (At.s At.z))) (em_var rfl (.inl rfl) (At.s (At.s (At.s At.z)))))) (fun _ _ h h2 => ps_asg h h2)) (ss_cons (sm_set sc_take_mail.nd rfl (.inl rfl) (At.s (At.s (At.s (At.s At.z)))) (em_listT (by rfl) U.list (em_p1 (em_var rfl (.inl rfl) (At.s At.z)))) (hf := .inl rfl)) (ss_cons (sm_setIx rfl (.inl rfl) (At.s (At.s (At.s (At.s At.z)))) (em_call (takes_of rfl rfl rfl rfl) G_without (hr.mono (by decide)) (by rfl) D_without.g D_without.F.kp D_without.b (am_cons (em_ixO rfl (.inl rfl) (At.s (At.s (At.s (At.s At.z)))) (fun _ _ => rfl) (em_var rfl (.inl rfl) (At.s (At.s (At.s (At.s (At.s (At.s At.z)))))))) (am_cons (em_var rfl (.inl rfl) (At.s (At.s (At.s (At.s (At.s (At.s (At.s At.z)))))))) am_nil))) (em_var rfl (.inl rfl) (At.s (At.s (At.s (At.s (At.s (At.s At.z))))))) (fun _ _ _ h h2 h3 => ps_asg h (pg_sub h2 h3 set_list))) (ss_cons (sm_set sc_take_mail.nd rfl (.inl rfl) (At.s At.z) (em_tup2 (am_cons (em_p0 (em_var rfl (.inl rfl) (At.s At.z))) (am_cons (em_tupO (by rfl) U.tuple rfl (.inl rfl) (At.s (At.s (At.s (At.s At.z))))) am_nil))) (hf := .inl rfl)) (ss_nilI (MvI.cons SMvI.refl (MvI.cons SMvI.refl (MvI.cons SMvI.refl (MvI.cons SMvI.refl (MvI.cons SMvI.hide (MvI.cons SMvI.hide (MvI.cons SMvI.hide (MvI.cons SMvI.hide MvI.refl)))))))))))))) (ss_nilI (MvI.cons SMvI.refl (MvI.cons SMvI.refl (MvI.cons SMvI.refl (MvI.cons SMvI.hide MvI.refl)))))))) (ss_one (sm_retP (em_var rfl (.inl rfl) (At.s At.z))))))
/-! ### _law_draws -/
noncomputable def m__law_draws : (List Int) × Int × Unit → Res (List Int) := kRun (S := (List Int) × Int × (List Int) × (List Int) × Int × Int × Int × Int × Int × Unit) (S' := Unit) (L := Unit) (kSeq (kSet (kU (fun x => .ok x) (kV gZ)) (pS (pS pZ))) (kSeq (kIf (kCmp mEq (kLenO (gS (gS gZ))) (kC (0 : Int))) (kSet (kCons (kC (7 : Int)) kNil) (pS (pS pZ))) kNx) (kSeq (kSet (kNil (α := Int)) (pS (pS (pS pZ)))) (kSeq (kSet (kC (12345 : Int)) (pS (pS (pS (pS pZ))))) (kSeq (kFor (kRange1 (kV (gS gZ))) (pS (pS (pS (pS (pS pZ))))) (kSeq (kSet (kB mMod (kV (gS (gS (gS (gS (gS gZ)))))) (kLenO (gS (gS gZ)))) (pS (pS (pS (pS (pS (pS pZ))))))) (kSeq (kSet (kIxO (gS (gS gZ)) (kV (gS (gS (gS (gS (gS (gS gZ)))))))) (pS (pS (pS (pS (pS (pS (pS pZ)))))))) (kSeq (kSet (kB mMod (kU (fun x => .ok x) (kB mAdd (kB mAdd (kB mAdd (kB mMul (kV (gS (gS (gS (gS gZ))))) (kC (48271 : Int))) (kB mMul (kB mMod (kU (fun x => .ok x) (kV (gS (gS (gS (gS (gS (gS (gS gZ))))))))) (kC (1000003 : Int))) (kC (69621 : Int)))) (kB mMul (kV (gS (gS (gS (gS (gS gZ)))))) (kC (7919 : Int)))) (kC (11 : Int)))) (kC (2147483647 : Int))) (pS (pS (pS (pS pZ))))) (kSeq (kSet (kB mMod (kU (fun x => .ok x) (kB mAdd (kB mAdd (kB mMul (kV (gS (gS (gS (gS gZ))))) (kV (gS (gS (gS (gS gZ)))))) (kB mMul (kC (31 : Int)) (kV (gS (gS (gS (gS gZ))))))) (kV (gS (gS (gS (gS (gS gZ)))))))) (kC (1000003 : Int))) (pS (pS (pS (pS (pS (pS (pS (pS pZ))))))))) (kSeq (kIf (kCmp mGe (kV (gS (gS (gS (gS (gS (gS (gS gZ)))))))) (kB mPow (kC (10 : Int)) (kC (18 : Int)))) (kSeq (kApp (gS (gS (gS gZ))) (pS (pS (pS pZ))) (kB mMod (kU (fun x => .ok x) (kV (gS (gS (gS (gS (gS (gS (gS gZ))))))))) (kC (1000 : Int)))) (kStore (gS (gS gZ)) (pS (pS pZ)) (kB mDiv (kV (gS (gS (gS (gS (gS (gS (gS gZ)))))))) (kC (1000 : Int))) (kV (gS (gS (gS (gS (gS (gS gZ))))))))) (kApp (gS (gS (gS gZ))) (pS (pS (pS pZ))) (kB mMod (kU (fun x => .ok x) (kV (gS (gS (gS (gS (gS (gS (gS (gS gZ)))))))))) (kC (1000 : Int))))) kNx)))))) (kSeq (kRev (gS (gS (gS gZ))) (pS (pS (pS pZ)))) (kRet (kV (gS (gS (gS gZ))))))))))) (iS (iS (iZ ([], [], 0, 0, 0, 0, 0, ())))) (fun _ => .bad)
noncomputable def l__law_draws_6 : ((List Int) × Int × (List Int) × (List Int) × Int × Int × Int × Int × Int × Unit) → Out ((List Int) × Int × (List Int) × (List Int) × Int × Int × Int × Int × Int × Unit) ((List Int) × Int × (List Int) × (List Int) × Int × Int × Int × Int × Int × Unit) (List Int) := (kSeq (kSet (kB mMod (kV (gS (gS (gS (gS (gS gZ)))))) (kLenO (gS (gS gZ)))) (pS (pS (pS (pS (pS (pS pZ))))))) (kSeq (kSet (kIxO (gS (gS gZ)) (kV (gS (gS (gS (gS (gS (gS gZ)))))))) (pS (pS (pS (pS (pS (pS (pS pZ)))))))) (kSeq (kSet (kB mMod (kU (fun x => .ok x) (kB mAdd (kB mAdd (kB mAdd (kB mMul (kV (gS (gS (gS (gS gZ))))) (kC (48271 : Int))) (kB mMul (kB mMod (kU (fun x => .ok x) (kV (gS (gS (gS (gS (gS (gS (gS gZ))))))))) (kC (1000003 : Int))) (kC (69621 : Int)))) (kB mMul (kV (gS (gS (gS (gS (gS gZ)))))) (kC (7919 : Int)))) (kC (11 : Int)))) (kC (2147483647 : Int))) (pS (pS (pS (pS pZ))))) (kSeq (kSet (kB mMod (kU (fun x => .ok x) (kB mAdd (kB mAdd (kB mMul (kV (gS (gS (gS (gS gZ))))) (kV (gS (gS (gS (gS gZ)))))) (kB mMul (kC (31 : Int)) (kV (gS (gS (gS (gS gZ))))))) (kV (gS (gS (gS (gS (gS gZ)))))))) (kC (1000003 : Int))) (pS (pS (pS (pS (pS (pS (pS (pS pZ))))))))) (kSeq (kIf (kCmp mGe (kV (gS (gS (gS (gS (gS (gS (gS gZ)))))))) (kB mPow (kC (10 : Int)) (kC (18 : Int)))) (kSeq (kApp (gS (gS (gS gZ))) (pS (pS (pS pZ))) (kB mMod (kU (fun x => .ok x) (kV (gS (gS (gS (gS (gS (gS (gS gZ))))))))) (kC (1000 : Int)))) (kStore (gS (gS gZ)) (pS (pS pZ)) (kB mDiv (kV (gS (gS (gS (gS (gS (gS (gS gZ)))))))) (kC (1000 : Int))) (kV (gS (gS (gS (gS (gS (gS gZ))))))))) (kApp (gS (gS (gS gZ))) (pS (pS (pS pZ))) (kB mMod (kU (fun x => .ok x) (kV (gS (gS (gS (gS (gS (gS (gS (gS gZ)))))))))) (kC (1000 : Int))))) kNx)))))
theorem n__law_draws : m__law_draws = kRun (S := (List Int) × Int × (List Int) × (List Int) × Int × Int × Int × Int × Int × Unit) (S' := Unit) (L := Unit) (kSeq (kSet (kU (fun x => .ok x) (kV gZ)) (pS (pS pZ))) (kSeq (kIf (kCmp mEq (kLenO (gS (gS gZ))) (kC (0 : Int))) (kSet (kCons (kC (7 : Int)) kNil) (pS (pS pZ))) kNx) (kSeq (kSet (kNil (α := Int)) (pS (pS (pS pZ)))) (kSeq (kSet (kC (12345 : Int)) (pS (pS (pS (pS pZ))))) (kSeq (kFor (kRange1 (kV (gS gZ))) (pS (pS (pS (pS (pS pZ))))) l__law_draws_6) (kSeq (kRev (gS (gS (gS gZ))) (pS (pS (pS pZ)))) (kRet (kV (gS (gS (gS gZ))))))))))) (iS (iS (iZ ([], [], 0, 0, 0, 0, 0, ())))) (fun _ => .bad) := rfl
abbrev s__law_draws : Stmt := (topS 28)
theorem sc__law_draws : FnScope ["_law_script", "_law_count", "_law_cells", "_law_found", "_law_mixed", "_law_k", "_law_j", "_law_cell", "_law_again"] ["_law_script", "_law_count"] (defScope s__law_draws) := ⟨rfl, rfl, rfl, by decide +kernel, rfl, by decide +kernel, by decide +kernel⟩
theorem ok__law_draws {f : Addr} {fd : FuncData} (D : DefAt K mg "_law_draws" s__law_draws ["_law_script", "_law_count"] f fd) (U : Uses mg)  : FnOk P w K mg base (L2.CX P w) 1 f fd ["_law_script", "_law_count"] (spP (XRm mg) (acons (fz (tScr K tInt)) (acons (fz tInt) anil)) (oL tInt) m__law_draws) :=
  fn_okK (G1 := fun _ => gnil) D.F sc__law_draws rfl rfl (fun _ => (st_cons (st_cons (st_nil (any_cons (any_cons (any_cons (any_cons (any_cons (any_cons (any_cons any_nil))))))))))) (fun _ => fall_bad) (fun _ cdv A outer s H E hr =>
    (ss_cons (sm_set sc__law_draws.nd rfl (.inl rfl) (At.s (At.s At.z)) (em_listS (by rfl) U.list (em_var rfl (.inl rfl) At.z)) (hf := .inl rfl)) (ss_cons (sm_if (tm_c (cm_eqS scInt) (nomark _) (em_lenO (by rfl) U.len rfl (.inl rfl) (At.s (At.s At.z))) em_int) (ss_one (sm_set sc__law_draws.nd rfl (.inl rfl) (At.s (At.s At.z)) (em_lstN (am_hcons em_int (am_hnil (T := tInt))) (ln_cons ln_nil) (by decide)) (hf := .inl rfl))) (ss_nilI MvI.refl)) (ss_cons (sm_set sc__law_draws.nd rfl (.inl rfl) (At.s (At.s (At.s At.z))) (em_lstN (am_hnil (T := tInt)) ln_nil (by decide)) (hf := .inl rfl)) (ss_cons (sm_set sc__law_draws.nd rfl (.inl rfl) (At.s (At.s (At.s (At.s At.z)))) em_int (hf := .inl rfl)) (ss_cons (sm_forI (passes_of rfl) rfl (im_range1 (by rfl) U.range (em_var rfl (.inl rfl) (At.s At.z))) MvI.refl (tgt_name sc__law_draws.nd rfl (.inl rfl) (At.s (At.s (At.s (At.s (At.s At.z))))) (.inl rfl)) (ss_cons (sm_set sc__law_draws.nd rfl (.inl rfl) (At.s (At.s (At.s (At.s (At.s (At.s At.z)))))) (em_mod (em_var rfl (.inl rfl) (At.s (At.s (At.s (At.s (At.s At.z)))))) (em_lenO (by rfl) U.len rfl (.inl rfl) (At.s (At.s At.z)))) (hf := .inl rfl)) (ss_cons (sm_set sc__law_draws.nd rfl (.inl rfl) (At.s (At.s (At.s (At.s (At.s (At.s (At.s At.z))))))) (em_ixO rfl (.inl rfl) (At.s (At.s At.z)) (fun _ _ => rfl) (em_var rfl (.inl rfl) (At.s (At.s (At.s (At.s (At.s (At.s At.z)))))))) (hf := .inl rfl)) (ss_cons (sm_set sc__law_draws.nd rfl (.inl rfl) (At.s (At.s (At.s (At.s At.z)))) (em_mod (em_intI (by rfl) U.int (em_add (em_add (em_add (em_mul (em_var rfl (.inl rfl) (At.s (At.s (At.s (At.s At.z))))) em_int) (em_mul (em_mod (em_intI (by rfl) U.int (em_var rfl (.inl rfl) (At.s (At.s (At.s (At.s (At.s (At.s (At.s At.z))))))))) em_int) em_int)) (em_mul (em_var rfl (.inl rfl) (At.s (At.s (At.s (At.s (At.s At.z)))))) em_int)) em_int)) em_int) (hf := .inl rfl)) (ss_cons (sm_set sc__law_draws.nd rfl (.inl rfl) (At.s (At.s (At.s (At.s (At.s (At.s (At.s (At.s At.z)))))))) (em_mod (em_intI (by rfl) U.int (em_add (em_add (em_mul (em_var rfl (.inl rfl) (At.s (At.s (At.s (At.s At.z))))) (em_var rfl (.inl rfl) (At.s (At.s (At.s (At.s At.z)))))) (em_mul em_int (em_var rfl (.inl rfl) (At.s (At.s (At.s (At.s At.z))))))) (em_var rfl (.inl rfl) (At.s (At.s (At.s (At.s (At.s At.z)))))))) em_int) (hf := .inl rfl)) (ss_cons (sm_if (tm_c cm_ge (nomark _) (em_var rfl (.inl rfl) (At.s (At.s (At.s (At.s (At.s (At.s (At.s At.z)))))))) (em_pow em_int em_int)) (ss_cons (sm_append rfl (.inl rfl) (At.s (At.s (At.s At.z))) (em_mod (em_intI (by rfl) U.int (em_var rfl (.inl rfl) (At.s (At.s (At.s (At.s (At.s (At.s (At.s At.z))))))))) em_int) (fun _ _ h h2 => pe_bm PySem.F.plainAttrs_list PySem.F.slot_list_append PySem.F.type_list_append mt_append h (pa_cons h2 pa_nil))) (ss_one (sm_setIx rfl (.inl rfl) (At.s (At.s At.z)) (em_fdiv (em_var rfl (.inl rfl) (At.s (At.s (At.s (At.s (At.s (At.s (At.s At.z)))))))) em_int) (em_var rfl (.inl rfl) (At.s (At.s (At.s (At.s (At.s (At.s At.z))))))) (fun _ _ _ h h2 h3 => ps_asg h (pg_sub h2 h3 set_list))))) (ss_one (sm_append rfl (.inl rfl) (At.s (At.s (At.s At.z))) (em_mod (em_intI (by rfl) U.int (em_var rfl (.inl rfl) (At.s (At.s (At.s (At.s (At.s (At.s (At.s (At.s At.z)))))))))) em_int) (fun _ _ h h2 => pe_bm PySem.F.plainAttrs_list PySem.F.slot_list_append PySem.F.type_list_append mt_append h (pa_cons h2 pa_nil))))) (ss_nilI (MvI.cons SMvI.refl (MvI.cons SMvI.refl (MvI.cons SMvI.refl (MvI.cons SMvI.refl (MvI.cons SMvI.refl (MvI.cons SMvI.hide (MvI.cons SMvI.hide (MvI.cons SMvI.hide (MvI.cons SMvI.hide MvI.refl)))))))))))))))) (ss_cons (sm_reverse rfl (.inl rfl) (At.s (At.s (At.s At.z))) (fun _ h => pe_bm0 PySem.F.plainAttrs_list PySem.F.slot_list_reverse PySem.F.type_list_reverse mt_reverse h)) (ss_one (sm_retO rfl (.inl rfl) (At.s (At.s (At.s At.z))))))))))))
/-! ### _law_take -/
noncomputable def m__law_take : (List Int) × Int × Unit → Res (Int × List Int) := kRun (S := (List Int) × Int × Unit) (S' := Unit) (L := Unit) (kSeq (kIf (kCmp mEq (kLenO gZ) (kC (0 : Int))) (kRetL gZ (kC (0 : Int))) kNx) (kRetL gZ (kB mMod (kU (fun x => .ok x) (kPop gZ pZ)) (kV (gS gZ))))) (iS (iS (iZ ()))) (fun _ => .bad)
abbrev s__law_take : Stmt := (topS 29)
theorem sc__law_take : FnScope ["_law_draws_here", "_law_limit"] ["_law_draws_here", "_law_limit"] (defScope s__law_take) := ⟨rfl, rfl, rfl, by decide +kernel, rfl, by decide +kernel, by decide +kernel⟩
theorem ok__law_take {f : Addr} {fd : FuncData} (D : DefAt K mg "_law_take" s__law_take ["_law_draws_here", "_law_limit"] f fd) (U : Uses mg)  : FnOk P w K mg base (L2.CX P w) 1 f fd ["_law_draws_here", "_law_limit"] (spL (XRm mg) tInt (acons (fz tInt) anil) (fz tInt) m__law_take) :=
  fn_okK (G1 := fun _ => gnil) D.F sc__law_take rfl rfl (fun ad => (st_cons (st_cons (st_nil any_nil)))) (fun ad => fall_bad) (fun ad cdv A outer s H E hr =>
    (ss_cons (sm_if (tm_c (cm_eqS scInt) (nomark _) (em_lenO (by rfl) U.len rfl (.inl rfl) At.z) em_int) (ss_one (sm_retL At.z em_int)) (ss_nilI MvI.refl)) (ss_one (sm_retL At.z (em_mod (em_intI (by rfl) U.int (em_pop rfl (.inl rfl) At.z (fun _ h => pe_bm0 PySem.F.plainAttrs_list PySem.F.slot_list_pop PySem.F.type_list_pop mt_pop h))) (em_var rfl (.inl rfl) (At.s At.z)))))))
/-! ### _law_marking -/
noncomputable def m__law_marking : (List Int) × Int × Int × Unit → Res ((List Int) × List Int) := kRun (S := (List Int) × Int × Int × Int × Unit) (S' := Unit) (L := Unit) (kRetL gZ (kU (fun x => .ok x) (kLc (kRange1 (kV (gS gZ))) (pS (pS (pS pZ))) (kCallL m__law_take gZ pZ (kPair (kB mAdd (kV (gS (gS gZ))) (kC (1 : Int))) kU0))))) (iS (iS (iS (iZ (0, ()))))) (fun _ => .bad)
abbrev s__law_marking : Stmt := (topS 30)
theorem sc__law_marking : FnScope ["_law_draws_here", "_law_size", "_law_most", "_law_k"] ["_law_draws_here", "_law_size", "_law_most"] (defScope s__law_marking) := ⟨rfl, rfl, rfl, by decide +kernel, rfl, by decide +kernel, by decide +kernel⟩
theorem ok__law_marking {f : Addr} {fd : FuncData} (D : DefAt K mg "_law_marking" s__law_marking ["_law_draws_here", "_law_size", "_law_most"] f fd) (U : Uses mg) {f__law_take : Addr} {fd__law_take : FuncData} (D__law_take : DefAt K mg "_law_take" s__law_take ["_law_draws_here", "_law_limit"] f__law_take fd__law_take) (G__law_take : FnOk P w K mg base (L2.CX P w) 1 f__law_take fd__law_take ["_law_draws_here", "_law_limit"] (spL (XRm mg) tInt (acons (fz tInt) anil) (fz tInt) m__law_take)) : FnOk P w K mg base (L2.CX P w) 2 f fd ["_law_draws_here", "_law_size", "_law_most"] (spL (XRm mg) tInt (acons (fz tInt) (acons (fz tInt) anil)) (fz (tTup tInt)) m__law_marking) :=
  fn_okK (G1 := fun _ => gnil) D.F sc__law_marking rfl rfl (fun ad => (st_cons (st_cons (st_cons (st_nil (any_cons any_nil)))))) (fun ad => fall_bad) (fun ad cdv A outer s H E hr =>
    (ss_one (sm_retL At.z (em_tupL (by rfl) U.tuple (em_freeze (em_lcK (own := [("_law_k", 3)]) rfl sc__law_marking.nd (im_range1 (by rfl) U.range (em_var rfl (.inl rfl) (At.s At.z))) (blkOk_by (N := ["_law_draws_here", "_law_size", "_law_most", "_law_k"]) (sc := (defScope s__law_marking)) (by decide +kernel)) (ko_keep (by decide) (ko_keep (by decide) (ko_keep (by decide) (ko_any ko_nil)))) (fun _ _ _ _ _ => (tgt_name sc__law_marking.nd rfl (.inl (by rfl)) (At.s (At.s (At.s At.z))) (.inr (by rfl)))) (fun _ _ _ _ _ => (em_callL takes0 G__law_take (hr.mono (by decide)) (by rfl) D__law_take.g D__law_take.F.kp D__law_take.b rfl (by first | exact .inr (.inr rfl) | exact .inr (.inl rfl)) At.z (am_cons (em_add (em_var rfl (by first | exact .inr (.inr rfl) | exact .inr (.inl rfl)) (At.s (At.s At.z))) em_int) am_nil))) (bi_cons (bi_cons (bi_cons (bi_any bi_refl))))))))))
/-! ### _law_covers -/
noncomputable def m__law_covers : (List Int) × (List Int) × Unit → Res Bool := kRun (S := (List Int) × (List Int) × Int × Unit) (S' := Unit) (L := Unit) (kSeq (kFor (kRange1 (kF (fun x => (x.length : Int)) (kV gZ))) (pS (pS pZ)) (kSeq (kIf (kCmp mLt (kB mIx (kV gZ) (kV (gS (gS gZ)))) (kB mIx (kV (gS gZ)) (kV (gS (gS gZ))))) (kRet (kC false)) kNx) kNx)) (kRet (kC true))) (iS (iS (iZ (0, ())))) (fun _ => .bad)
noncomputable def l__law_covers_1 : ((List Int) × (List Int) × Int × Unit) → Out ((List Int) × (List Int) × Int × Unit) ((List Int) × (List Int) × Int × Unit) Bool := (kSeq (kIf (kCmp mLt (kB mIx (kV gZ) (kV (gS (gS gZ)))) (kB mIx (kV (gS gZ)) (kV (gS (gS gZ))))) (kRet (kC false)) kNx) kNx)
theorem n__law_covers : m__law_covers = kRun (S := (List Int) × (List Int) × Int × Unit) (S' := Unit) (L := Unit) (kSeq (kFor (kRange1 (kF (fun x => (x.length : Int)) (kV gZ))) (pS (pS pZ)) l__law_covers_1) (kRet (kC true))) (iS (iS (iZ (0, ())))) (fun _ => .bad) := rfl
abbrev s__law_covers : Stmt := (topS 31)
theorem sc__law_covers : FnScope ["_law_first", "_law_second", "_law_k"] ["_law_first", "_law_second"] (defScope s__law_covers) := ⟨rfl, rfl, rfl, by decide +kernel, rfl, by decide +kernel, by decide +kernel⟩
theorem ok__law_covers {f : Addr} {fd : FuncData} (D : DefAt K mg "_law_covers" s__law_covers ["_law_first", "_law_second"] f fd) (U : Uses mg)  : FnOk P w K mg base (L2.CX P w) 1 f fd ["_law_first", "_law_second"] (spP (XRm mg) (acons (fz (tTup tInt)) (acons (fz (tTup tInt)) anil)) (fz tBool) m__law_covers) :=
  fn_okK (G1 := fun _ => gnil) D.F sc__law_covers rfl rfl (fun _ => (st_cons (st_cons (st_nil (any_cons any_nil))))) (fun _ => fall_bad) (fun _ cdv A outer s H E hr =>
    (ss_cons (sm_forI (passes_of rfl) rfl (im_range1 (by rfl) U.range (em_lenT (by rfl) U.len (em_var rfl (.inl rfl) At.z))) MvI.refl (tgt_name sc__law_covers.nd rfl (.inl rfl) (At.s (At.s At.z)) (.inl rfl)) (ss_cons (sm_if (tm_c cm_lt (nomark _) (em_ixT (fun _ _ => rfl) (em_var rfl (.inl rfl) At.z) (em_var rfl (.inl rfl) (At.s (At.s At.z)))) (em_ixT (fun _ _ => rfl) (em_var rfl (.inl rfl) (At.s At.z)) (em_var rfl (.inl rfl) (At.s (At.s At.z))))) (ss_one (sm_retP em_bool)) (ss_nilI MvI.refl)) (ss_nilI (MvI.cons SMvI.refl (MvI.cons SMvI.refl (MvI.cons SMvI.hide MvI.refl)))))) (ss_one (sm_retP em_bool))))
/-! ### _law_transition -/
noncomputable def m__law_transition : (List Int) × Int × Bool × Unit → Res (((List Int) × (List Int) × (List Int)) × List Int) := kRun (S := (List Int) × Int × Bool × (List Int) × (List Int) × Int × (List Int) × Unit) (S' := Unit) (L := Unit) (kSeq (kSet (kB mRep (kCons (kC (0 : Int)) kNil) (kV (gS gZ))) (pS (pS (pS pZ)))) (kSeq (kSet (kB mRep (kCons (kC (0 : Int)) kNil) (kV (gS gZ))) (pS (pS (pS (pS pZ))))) (kSeq (kFor (kRange1 (kB mIx (kCons (kC (1 : Int)) (kCons (kC (1 : Int)) (kCons (kC (2 : Int)) (kCons (kC (0 : Int)) kNil)))) (kCallL m__law_take gZ pZ (kPair (kC (4 : Int)) kU0)))) (pS (pS (pS (pS (pS pZ))))) (kSeq (kAugIx (gS (gS (gS gZ))) (pS (pS (pS pZ))) (fun x y => x + y) (kCallL m__law_take gZ pZ (kPair (kV (gS gZ)) kU0)) (kC (1 : Int))) kNx)) (kSeq (kFor (kRange1 (kB mIx (kCons (kC (1 : Int)) (kCons (kC (1 : Int)) (kCons (kC (2 : Int)) (kCons (kC (3 : Int)) (kCons (kC (0 : Int)) kNil))))) (kCallL m__law_take gZ pZ (kPair (kC (5 : Int)) kU0)))) (pS (pS (pS (pS (pS pZ))))) (kSeq (kAugIx (gS (gS (gS (gS gZ)))) (pS (pS (pS (pS pZ)))) (fun x y => x + y) (kCallL m__law_take gZ pZ (kPair (kV (gS gZ)) kU0)) (kC (1 : Int))) kNx)) (kSeq (kSet (kU mRng (kV (gS gZ))) (pS (pS (pS (pS (pS (pS pZ))))))) (kSeq (kIf (kAnd (kF (fun x => !x) (kV (gS (gS gZ)))) (kCmp mEq (kCallL m__law_take gZ pZ (kPair (kC (2 : Int)) kU0)) (kC (0 : Int)))) (kFor (kRange1 (kV (gS gZ))) (pS (pS (pS (pS (pS pZ))))) (kSeq (kIf (kCmp mEq (kCallL m__law_take gZ pZ (kPair (kC (2 : Int)) kU0)) (kC (0 : Int))) (kStore (gS (gS (gS (gS (gS (gS gZ)))))) (pS (pS (pS (pS (pS (pS pZ)))))) (kB mSub (kCallL m__law_take gZ pZ (kPair (kB mAdd (kV (gS gZ)) (kC (1 : Int))) kU0)) (kC (1 : Int))) (kV (gS (gS (gS (gS (gS gZ))))))) kNx) kNx)) kNx) (kRetL gZ (kF (fun x => (x.1, x.2.1, x.2.2.1)) (kPair (kV (gS (gS (gS gZ)))) (kPair (kV (gS (gS (gS (gS gZ))))) (kPair (kV (gS (gS (gS (gS (gS (gS gZ))))))) kU0))))))))))) (iS (iS (iS (iZ ([], [], 0, [], ()))))) (fun _ => .bad)
noncomputable def l__law_transition_3 : ((List Int) × Int × Bool × (List Int) × (List Int) × Int × (List Int) × Unit) → Out ((List Int) × Int × Bool × (List Int) × (List Int) × Int × (List Int) × Unit) ((List Int) × Int × Bool × (List Int) × (List Int) × Int × (List Int) × Unit) (((List Int) × (List Int) × (List Int)) × List Int) := (kSeq (kAugIx (gS (gS (gS gZ))) (pS (pS (pS pZ))) (fun x y => x + y) (kCallL m__law_take gZ pZ (kPair (kV (gS gZ)) kU0)) (kC (1 : Int))) kNx)
noncomputable def l__law_transition_5 : ((List Int) × Int × Bool × (List Int) × (List Int) × Int × (List Int) × Unit) → Out ((List Int) × Int × Bool × (List Int) × (List Int) × Int × (List Int) × Unit) ((List Int) × Int × Bool × (List Int) × (List Int) × Int × (List Int) × Unit) (((List Int) × (List Int) × (List Int)) × List Int) := (kSeq (kAugIx (gS (gS (gS (gS gZ)))) (pS (pS (pS (pS pZ)))) (fun x y => x + y) (kCallL m__law_take gZ pZ (kPair (kV (gS gZ)) kU0)) (kC (1 : Int))) kNx)
noncomputable def l__law_transition_9 : ((List Int) × Int × Bool × (List Int) × (List Int) × Int × (List Int) × Unit) → Out ((List Int) × Int × Bool × (List Int) × (List Int) × Int × (List Int) × Unit) ((List Int) × Int × Bool × (List Int) × (List Int) × Int × (List Int) × Unit) (((List Int) × (List Int) × (List Int)) × List Int) := (kSeq (kIf (kCmp mEq (kCallL m__law_take gZ pZ (kPair (kC (2 : Int)) kU0)) (kC (0 : Int))) (kStore (gS (gS (gS (gS (gS (gS gZ)))))) (pS (pS (pS (pS (pS (pS pZ)))))) (kB mSub (kCallL m__law_take gZ pZ (kPair (kB mAdd (kV (gS gZ)) (kC (1 : Int))) kU0)) (kC (1 : Int))) (kV (gS (gS (gS (gS (gS gZ))))))) kNx) kNx)
theorem n__law_transition : m__law_transition = kRun (S := (List Int) × Int × Bool × (List Int) × (List Int) × Int × (List Int) × Unit) (S' := Unit) (L := Unit) (kSeq (kSet (kB mRep (kCons (kC (0 : Int)) kNil) (kV (gS gZ))) (pS (pS (pS pZ)))) (kSeq (kSet (kB mRep (kCons (kC (0 : Int)) kNil) (kV (gS gZ))) (pS (pS (pS (pS pZ))))) (kSeq (kFor (kRange1 (kB mIx (kCons (kC (1 : Int)) (kCons (kC (1 : Int)) (kCons (kC (2 : Int)) (kCons (kC (0 : Int)) kNil)))) (kCallL m__law_take gZ pZ (kPair (kC (4 : Int)) kU0)))) (pS (pS (pS (pS (pS pZ))))) l__law_transition_3) (kSeq (kFor (kRange1 (kB mIx (kCons (kC (1 : Int)) (kCons (kC (1 : Int)) (kCons (kC (2 : Int)) (kCons (kC (3 : Int)) (kCons (kC (0 : Int)) kNil))))) (kCallL m__law_take gZ pZ (kPair (kC (5 : Int)) kU0)))) (pS (pS (pS (pS (pS pZ))))) l__law_transition_5) (kSeq (kSet (kU mRng (kV (gS gZ))) (pS (pS (pS (pS (pS (pS pZ))))))) (kSeq (kIf (kAnd (kF (fun x => !x) (kV (gS (gS gZ)))) (kCmp mEq (kCallL m__law_take gZ pZ (kPair (kC (2 : Int)) kU0)) (kC (0 : Int)))) (kFor (kRange1 (kV (gS gZ))) (pS (pS (pS (pS (pS pZ))))) l__law_transition_9) kNx) (kRetL gZ (kF (fun x => (x.1, x.2.1, x.2.2.1)) (kPair (kV (gS (gS (gS gZ)))) (kPair (kV (gS (gS (gS (gS gZ))))) (kPair (kV (gS (gS (gS (gS (gS (gS gZ))))))) kU0))))))))))) (iS (iS (iS (iZ ([], [], 0, [], ()))))) (fun _ => .bad) := rfl
abbrev s__law_transition : Stmt := (topS 32)
theorem sc__law_transition : FnScope ["_law_draws_here", "_law_places", "_law_plain", "_law_takes", "_law_gives", "_law_k", "_law_moves"] ["_law_draws_here", "_law_places", "_law_plain"] (defScope s__law_transition) := ⟨rfl, rfl, rfl, by decide +kernel, rfl, by decide +kernel, by decide +kernel⟩
theorem ok__law_transition {f : Addr} {fd : FuncData} (D : DefAt K mg "_law_transition" s__law_transition ["_law_draws_here", "_law_places", "_law_plain"] f fd) (U : Uses mg) {f__law_take : Addr} {fd__law_take : FuncData} (D__law_take : DefAt K mg "_law_take" s__law_take ["_law_draws_here", "_law_limit"] f__law_take fd__law_take) (G__law_take : FnOk P w K mg base (L2.CX P w) 1 f__law_take fd__law_take ["_law_draws_here", "_law_limit"] (spL (XRm mg) tInt (acons (fz tInt) anil) (fz tInt) m__law_take)) : FnOk P w K mg base (L2.CX P w) 2 f fd ["_law_draws_here", "_law_places", "_law_plain"] (spL (XRm mg) tInt (acons (fz tInt) (acons (fz tBool) anil)) (fz (tP3 (tTup tInt) (tTup tInt) (tTup tInt))) m__law_transition) :=
  fn_okK (G1 := fun _ => gnil) D.F sc__law_transition rfl rfl (fun ad => (st_cons (st_cons (st_cons (st_nil (any_cons (any_cons (any_cons (any_cons any_nil))))))))) (fun ad => fall_bad) (fun ad cdv A outer s H E hr =>
    (ss_cons (sm_set sc__law_transition.nd rfl (.inl rfl) (At.s (At.s (At.s At.z))) (em_repL (em_freeze (em_lstN (am_hcons em_int (am_hnil (T := tInt))) (ln_cons ln_nil) (by decide))) (em_var rfl (.inl rfl) (At.s At.z))) (hf := .inl rfl)) (ss_cons (sm_set sc__law_transition.nd rfl (.inl rfl) (At.s (At.s (At.s (At.s At.z)))) (em_repL (em_freeze (em_lstN (am_hcons em_int (am_hnil (T := tInt))) (ln_cons ln_nil) (by decide))) (em_var rfl (.inl rfl) (At.s At.z))) (hf := .inl rfl)) (ss_cons (sm_forI (passes_of rfl) rfl (im_range1 (by rfl) U.range (em_ixL (fun _ _ => rfl) (em_freeze (em_lstN (am_hcons em_int (am_hcons em_int (am_hcons em_int (am_hcons em_int (am_hnil (T := tInt)))))) (ln_cons (ln_cons (ln_cons (ln_cons ln_nil)))) (by decide))) (em_callL (takes_of rfl rfl rfl rfl) G__law_take (hr.mono (by decide)) (by rfl) D__law_take.g D__law_take.F.kp D__law_take.b rfl (.inl rfl) At.z (am_cons em_int am_nil)))) MvI.refl (tgt_name sc__law_transition.nd rfl (.inl rfl) (At.s (At.s (At.s (At.s (At.s At.z))))) (.inl rfl)) (ss_cons (sm_augIx ip_add rfl (.inl rfl) (At.s (At.s (At.s At.z))) em_int (em_callL (takes_of rfl rfl rfl rfl) G__law_take (hr.mono (by decide)) (by rfl) D__law_take.g D__law_take.F.kp D__law_take.b rfl (.inl rfl) At.z (am_cons (em_var rfl (.inl rfl) (At.s At.z)) am_nil)) (fun _ _ _ h h2 h3 => ps_augS h2 h3 pget_list h ip_add set_list)) (ss_nilI (MvI.cons SMvI.refl (MvI.cons SMvI.refl (MvI.cons SMvI.refl (MvI.cons SMvI.refl (MvI.cons SMvI.refl (MvI.cons SMvI.hide MvI.refl))))))))) (ss_cons (sm_forI (passes_of rfl) rfl (im_range1 (by rfl) U.range (em_ixL (fun _ _ => rfl) (em_freeze (em_lstN (am_hcons em_int (am_hcons em_int (am_hcons em_int (am_hcons em_int (am_hcons em_int (am_hnil (T := tInt))))))) (ln_cons (ln_cons (ln_cons (ln_cons (ln_cons ln_nil))))) (by decide))) (em_callL (takes_of rfl rfl rfl rfl) G__law_take (hr.mono (by decide)) (by rfl) D__law_take.g D__law_take.F.kp D__law_take.b rfl (.inl rfl) At.z (am_cons em_int am_nil)))) MvI.refl (tgt_name sc__law_transition.nd rfl (.inl rfl) (At.s (At.s (At.s (At.s (At.s At.z))))) (.inl rfl)) (ss_cons (sm_augIx ip_add rfl (.inl rfl) (At.s (At.s (At.s (At.s At.z)))) em_int (em_callL (takes_of rfl rfl rfl rfl) G__law_take (hr.mono (by decide)) (by rfl) D__law_take.g D__law_take.F.kp D__law_take.b rfl (.inl rfl) At.z (am_cons (em_var rfl (.inl rfl) (At.s At.z)) am_nil)) (fun _ _ _ h h2 h3 => ps_augS h2 h3 pget_list h ip_add set_list)) (ss_nilI (MvI.cons SMvI.refl (MvI.cons SMvI.refl (MvI.cons SMvI.refl (MvI.cons SMvI.refl (MvI.cons SMvI.refl (MvI.cons SMvI.hide MvI.refl))))))))) (ss_cons (sm_set sc__law_transition.nd rfl (.inl rfl) (At.s (At.s (At.s (At.s (At.s (At.s At.z)))))) (em_listR rfl (by rfl) U.list (by rfl) U.range (em_var rfl (.inl rfl) (At.s At.z))) (hf := .inl rfl)) (ss_cons (sm_if (tm_b (bm_and (tm_not (tm_val (em_var rfl (.inl rfl) (At.s (At.s At.z))))) (bm_and1 (tm_c (cm_eqS scInt) (nomark _) (em_callL (takes_of rfl rfl rfl rfl) G__law_take (hr.mono (by decide)) (by rfl) D__law_take.g D__law_take.F.kp D__law_take.b rfl (.inl rfl) At.z (am_cons em_int am_nil)) em_int)))) (ss_one (sm_forI (passes_of rfl) rfl (im_range1 (by rfl) U.range (em_var rfl (.inl rfl) (At.s At.z))) MvI.refl (tgt_name sc__law_transition.nd rfl (.inl rfl) (At.s (At.s (At.s (At.s (At.s At.z))))) (.inl rfl)) (ss_cons (sm_if (tm_c (cm_eqS scInt) (nomark _) (em_callL (takes_of rfl rfl rfl rfl) G__law_take (hr.mono (by decide)) (by rfl) D__law_take.g D__law_take.F.kp D__law_take.b rfl (.inl rfl) At.z (am_cons em_int am_nil)) em_int) (ss_one (sm_setIx rfl (.inl rfl) (At.s (At.s (At.s (At.s (At.s (At.s At.z)))))) (em_subt (em_callL (takes_of rfl rfl rfl rfl) G__law_take (hr.mono (by decide)) (by rfl) D__law_take.g D__law_take.F.kp D__law_take.b rfl (.inl rfl) At.z (am_cons (em_add (em_var rfl (.inl rfl) (At.s At.z)) em_int) am_nil)) em_int) (em_var rfl (.inl rfl) (At.s (At.s (At.s (At.s (At.s At.z)))))) (fun _ _ _ h h2 h3 => ps_asg h (pg_sub h2 h3 set_list)))) (ss_nilI MvI.refl)) (ss_nilI (MvI.cons SMvI.refl (MvI.cons SMvI.refl (MvI.cons SMvI.refl (MvI.cons SMvI.refl (MvI.cons SMvI.refl (MvI.cons SMvI.hide MvI.refl)))))))))) (ss_nilI MvI.refl)) (ss_one (sm_retL At.z (em_tup3 (am_cons (em_tupO (by rfl) U.tuple rfl (.inl rfl) (At.s (At.s (At.s At.z)))) (am_cons (em_tupO (by rfl) U.tuple rfl (.inl rfl) (At.s (At.s (At.s (At.s At.z))))) (am_cons (em_tupO (by rfl) U.tuple rfl (.inl rfl) (At.s (At.s (At.s (At.s (At.s (At.s At.z))))))) am_nil)))))))))))))
/-! ### _law_net -/
noncomputable def m__law_net : (List Int) × Int × Int × Bool × Unit → Res ((List ((List Int) × (List Int) × (List Int))) × List Int) := kRun (S := (List Int) × Int × Int × Bool × Int × Unit) (S' := Unit) (L := Unit) (kRetL gZ (kLc (kRange1 (kB mAdd (kC (1 : Int)) (kCallL m__law_take gZ pZ (kPair (kV (gS (gS gZ))) kU0)))) (pS (pS (pS (pS pZ)))) (kCallL m__law_transition gZ pZ (kPair (kV (gS gZ)) (kPair (kV (gS (gS (gS gZ)))) kU0))))) (iS (iS (iS (iS (iZ (0, ())))))) (fun _ => .bad)
abbrev s__law_net : Stmt := (topS 33)
theorem sc__law_net : FnScope ["_law_draws_here", "_law_places", "_law_most", "_law_plain", "_law_k"] ["_law_draws_here", "_law_places", "_law_most", "_law_plain"] (defScope s__law_net) := ⟨rfl, rfl, rfl, by decide +kernel, rfl, by decide +kernel, by decide +kernel⟩
theorem ok__law_net {f : Addr} {fd : FuncData} (D : DefAt K mg "_law_net" s__law_net ["_law_draws_here", "_law_places", "_law_most", "_law_plain"] f fd) (U : Uses mg) {f__law_take : Addr} {fd__law_take : FuncData} (D__law_take : DefAt K mg "_law_take" s__law_take ["_law_draws_here", "_law_limit"] f__law_take fd__law_take) (G__law_take : FnOk P w K mg base (L2.CX P w) 1 f__law_take fd__law_take ["_law_draws_here", "_law_limit"] (spL (XRm mg) tInt (acons (fz tInt) anil) (fz tInt) m__law_take)) {f__law_transition : Addr} {fd__law_transition : FuncData} (D__law_transition : DefAt K mg "_law_transition" s__law_transition ["_law_draws_here", "_law_places", "_law_plain"] f__law_transition fd__law_transition) (G__law_transition : FnOk P w K mg base (L2.CX P w) 2 f__law_transition fd__law_transition ["_law_draws_here", "_law_places", "_law_plain"] (spL (XRm mg) tInt (acons (fz tInt) (acons (fz tBool) anil)) (fz (tP3 (tTup tInt) (tTup tInt) (tTup tInt))) m__law_transition)) : FnOk P w K mg base (L2.CX P w) 3 f fd ["_law_draws_here", "_law_places", "_law_most", "_law_plain"] (spL (XRm mg) tInt (acons (fz tInt) (acons (fz tInt) (acons (fz tBool) anil))) (fz (tLst (tP3 (tTup tInt) (tTup tInt) (tTup tInt)))) m__law_net) :=
  fn_okK (G1 := fun _ => gnil) D.F sc__law_net rfl rfl (fun ad => (st_cons (st_cons (st_cons (st_cons (st_nil (any_cons any_nil))))))) (fun ad => fall_bad) (fun ad cdv A outer s H E hr =>
    (ss_one (sm_retL At.z (em_freeze (em_lcK (own := [("_law_k", 4)]) rfl sc__law_net.nd (im_range1 (by rfl) U.range (em_add em_int (em_callL (takes_of rfl rfl rfl rfl) G__law_take (hr.mono (by decide)) (by rfl) D__law_take.g D__law_take.F.kp D__law_take.b rfl (.inr (.inl rfl)) At.z (am_cons (em_var rfl (.inl rfl) (At.s (At.s At.z))) am_nil)))) (blkOk_by (N := ["_law_draws_here", "_law_places", "_law_most", "_law_plain", "_law_k"]) (sc := (defScope s__law_net)) (by decide +kernel)) (ko_keep (by decide) (ko_keep (by decide) (ko_keep (by decide) (ko_keep (by decide) (ko_any ko_nil))))) (fun _ _ _ _ _ => (tgt_name sc__law_net.nd rfl (.inl (by rfl)) (At.s (At.s (At.s (At.s At.z)))) (.inr (by rfl)))) (fun _ _ _ _ _ => (em_callL takes0 G__law_transition (hr.mono (by decide)) (by rfl) D__law_transition.g D__law_transition.F.kp D__law_transition.b rfl (by first | exact .inr (.inr rfl) | exact .inr (.inl rfl)) At.z (am_cons (em_var rfl (by first | exact .inr (.inr rfl) | exact .inr (.inl rfl)) (At.s At.z)) (am_cons (em_var rfl (by first | exact .inr (.inr rfl) | exact .inr (.inl rfl)) (At.s (At.s (At.s At.z)))) am_nil)))) (bi_cons (bi_cons (bi_cons (bi_cons (bi_any bi_refl))))))))))
/-! ### _law_fire -/
noncomputable def m__law_fire : ((List Int) × (List Int) × (List Int)) × (List Int) × Unit → Res (Option (List Int)) := kRun (S := ((List Int) × (List Int) × (List Int)) × (List Int) × (List Int) × Int × (List Int) × (List Int) × (List Int) × Int × Unit) (S' := Unit) (L := Unit) (kSeq (kSet (kV gZ) (pC (pP (pS (pS (pS (pS pZ)))) (pP (pS (pS (pS (pS (pS pZ))))) (pP (pS (pS (pS (pS (pS (pS pZ)))))) pN))) c3)) (kSeq (kIf (kF (fun x => !x) (kU m__law_covers (kPair (kV (gS gZ)) (kPair (kV (gS (gS (gS (gS gZ))))) kU0)))) (kRet (kC (none : (Option (List Int))))) kNx) (kSeq (kSet (kU (fun x => .ok x) (kV (gS (gS (gS (gS (gS gZ))))))) (pS (pS pZ))) (kSeq (kFor (kRange1 (kF (fun x => (x.length : Int)) (kV (gS gZ)))) (pS (pS (pS pZ))) (kSeq (kIf (kCmp mGe (kB mIx (kV (gS (gS (gS (gS (gS (gS gZ))))))) (kV (gS (gS (gS gZ))))) (kC (0 : Int))) (kSeq (kSet (kB mIx (kV (gS (gS (gS (gS (gS (gS gZ))))))) (kV (gS (gS (gS gZ))))) (pS (pS (pS (pS (pS (pS (pS pZ)))))))) (kSeq (kStore (gS (gS gZ)) (pS (pS pZ)) (kB mSub (kB mAdd (kIxO (gS (gS gZ)) (kV (gS (gS (gS (gS (gS (gS (gS gZ))))))))) (kB mIx (kV (gS gZ)) (kV (gS (gS (gS gZ)))))) (kB mIx (kV (gS (gS (gS (gS gZ))))) (kV (gS (gS (gS gZ)))))) (kV (gS (gS (gS (gS (gS (gS (gS gZ))))))))) kNx)) kNx) kNx)) (kRet (kF some (kV (gS (gS gZ))))))))) (iS (iS (iZ ([], 0, [], [], [], 0, ())))) (fun _ => .bad)
noncomputable def l__law_fire_5 : (((List Int) × (List Int) × (List Int)) × (List Int) × (List Int) × Int × (List Int) × (List Int) × (List Int) × Int × Unit) → Out (((List Int) × (List Int) × (List Int)) × (List Int) × (List Int) × Int × (List Int) × (List Int) × (List Int) × Int × Unit) (((List Int) × (List Int) × (List Int)) × (List Int) × (List Int) × Int × (List Int) × (List Int) × (List Int) × Int × Unit) (Option (List Int)) := (kSeq (kIf (kCmp mGe (kB mIx (kV (gS (gS (gS (gS (gS (gS gZ))))))) (kV (gS (gS (gS gZ))))) (kC (0 : Int))) (kSeq (kSet (kB mIx (kV (gS (gS (gS (gS (gS (gS gZ))))))) (kV (gS (gS (gS gZ))))) (pS (pS (pS (pS (pS (pS (pS pZ)))))))) (kSeq (kStore (gS (gS gZ)) (pS (pS pZ)) (kB mSub (kB mAdd (kIxO (gS (gS gZ)) (kV (gS (gS (gS (gS (gS (gS (gS gZ))))))))) (kB mIx (kV (gS gZ)) (kV (gS (gS (gS gZ)))))) (kB mIx (kV (gS (gS (gS (gS gZ))))) (kV (gS (gS (gS gZ)))))) (kV (gS (gS (gS (gS (gS (gS (gS gZ))))))))) kNx)) kNx) kNx)
theorem n__law_fire : m__law_fire = kRun (S := ((List Int) × (List Int) × (List Int)) × (List Int) × (List Int) × Int × (List Int) × (List Int) × (List Int) × Int × Unit) (S' := Unit) (L := Unit) (kSeq (kSet (kV gZ) (pC (pP (pS (pS (pS (pS pZ)))) (pP (pS (pS (pS (pS (pS pZ))))) (pP (pS (pS (pS (pS (pS (pS pZ)))))) pN))) c3)) (kSeq (kIf (kF (fun x => !x) (kU m__law_covers (kPair (kV (gS gZ)) (kPair (kV (gS (gS (gS (gS gZ))))) kU0)))) (kRet (kC (none : (Option (List Int))))) kNx) (kSeq (kSet (kU (fun x => .ok x) (kV (gS (gS (gS (gS (gS gZ))))))) (pS (pS pZ))) (kSeq (kFor (kRange1 (kF (fun x => (x.length : Int)) (kV (gS gZ)))) (pS (pS (pS pZ))) l__law_fire_5) (kRet (kF some (kV (gS (gS gZ))))))))) (iS (iS (iZ ([], 0, [], [], [], 0, ())))) (fun _ => .bad) := rfl
abbrev s__law_fire : Stmt := (topS 34)
theorem sc__law_fire : FnScope ["_law_transition_here", "_law_marking_here", "_law_found", "_law_k", "_law_takes", "_law_gives", "_law_moves", "_law_target"] ["_law_transition_here", "_law_marking_here"] (defScope s__law_fire) := ⟨rfl, rfl, rfl, by decide +kernel, rfl, by decide +kernel, by decide +kernel⟩
theorem ok__law_fire {f : Addr} {fd : FuncData} (D : DefAt K mg "_law_fire" s__law_fire ["_law_transition_here", "_law_marking_here"] f fd) (U : Uses mg) {f__law_covers : Addr} {fd__law_covers : FuncData} (D__law_covers : DefAt K mg "_law_covers" s__law_covers ["_law_first", "_law_second"] f__law_covers fd__law_covers) (G__law_covers : FnOk P w K mg base (L2.CX P w) 1 f__law_covers fd__law_covers ["_law_first", "_law_second"] (spP (XRm mg) (acons (fz (tTup tInt)) (acons (fz (tTup tInt)) anil)) (fz tBool) m__law_covers)) : FnOk P w K mg base (L2.CX P w) 2 f fd ["_law_transition_here", "_law_marking_here"] (spP (XRm mg) (acons (fz (tP3 (tTup tInt) (tTup tInt) (tTup tInt))) (acons (fz (tTup tInt)) anil)) (fz (tOpt (tTup tInt))) m__law_fire) :=
  fn_okK (G1 := fun _ => gnil) D.F sc__law_fire rfl rfl (fun _ => (st_cons (st_cons (st_nil (any_cons (any_cons (any_cons (any_cons (any_cons (any_cons any_nil)))))))))) (fun _ => fall_bad) (fun _ cdv A outer s H E hr =>
    (ss_cons (sm_unpack (R := fz (tP3 (tTup tInt) (tTup tInt) (tTup tInt))) (tgt_3 (tgt_H rfl (tgs_cons (tgt_name sc__law_fire.nd rfl (.inl rfl) (At.s (At.s (At.s (At.s At.z)))) (.inl rfl)) (tgs_cons (tgt_name sc__law_fire.nd rfl (.inl rfl) (At.s (At.s (At.s (At.s (At.s At.z))))) (.inl rfl)) (tgs_cons (tgt_name sc__law_fire.nd rfl (.inl rfl) (At.s (At.s (At.s (At.s (At.s (At.s At.z)))))) (.inl rfl)) tgs_nil))) rfl (fun _ h => pg_tup rfl h))) (em_var rfl (.inl rfl) At.z) (fun _ _ h h2 => ps_asg h h2)) (ss_cons (sm_if (tm_not (tm_val (em_call (takes_of rfl rfl rfl rfl) G__law_covers (hr.mono (by decide)) (by rfl) D__law_covers.g D__law_covers.F.kp D__law_covers.b (am_cons (em_var rfl (.inl rfl) (At.s At.z)) (am_cons (em_var rfl (.inl rfl) (At.s (At.s (At.s (At.s At.z))))) am_nil))))) (ss_one (sm_retP (em_none (T := (tTup tInt))))) (ss_nilI MvI.refl)) (ss_cons (sm_set sc__law_fire.nd rfl (.inl rfl) (At.s (At.s At.z)) (em_listT (by rfl) U.list (em_var rfl (.inl rfl) (At.s (At.s (At.s (At.s (At.s At.z))))))) (hf := .inl rfl)) (ss_cons (sm_forI (passes_of rfl) rfl (im_range1 (by rfl) U.range (em_lenT (by rfl) U.len (em_var rfl (.inl rfl) (At.s At.z)))) MvI.refl (tgt_name sc__law_fire.nd rfl (.inl rfl) (At.s (At.s (At.s At.z))) (.inl rfl)) (ss_cons (sm_if (tm_c cm_ge (nomark _) (em_ixT (fun _ _ => rfl) (em_var rfl (.inl rfl) (At.s (At.s (At.s (At.s (At.s (At.s At.z))))))) (em_var rfl (.inl rfl) (At.s (At.s (At.s At.z))))) em_int) (ss_cons (sm_set sc__law_fire.nd rfl (.inl rfl) (At.s (At.s (At.s (At.s (At.s (At.s (At.s At.z))))))) (em_ixT (fun _ _ => rfl) (em_var rfl (.inl rfl) (At.s (At.s (At.s (At.s (At.s (At.s At.z))))))) (em_var rfl (.inl rfl) (At.s (At.s (At.s At.z))))) (hf := .inl rfl)) (ss_cons (sm_setIx rfl (.inl rfl) (At.s (At.s At.z)) (em_subt (em_add (em_ixO rfl (.inl rfl) (At.s (At.s At.z)) (fun _ _ => rfl) (em_var rfl (.inl rfl) (At.s (At.s (At.s (At.s (At.s (At.s (At.s At.z))))))))) (em_ixT (fun _ _ => rfl) (em_var rfl (.inl rfl) (At.s At.z)) (em_var rfl (.inl rfl) (At.s (At.s (At.s At.z)))))) (em_ixT (fun _ _ => rfl) (em_var rfl (.inl rfl) (At.s (At.s (At.s (At.s At.z))))) (em_var rfl (.inl rfl) (At.s (At.s (At.s At.z)))))) (em_var rfl (.inl rfl) (At.s (At.s (At.s (At.s (At.s (At.s (At.s At.z)))))))) (fun _ _ _ h h2 h3 => ps_asg h (pg_sub h2 h3 set_list))) (ss_nilI (MvI.cons SMvI.refl (MvI.cons SMvI.refl (MvI.cons SMvI.refl (MvI.cons SMvI.refl (MvI.cons SMvI.refl (MvI.cons SMvI.refl (MvI.cons SMvI.refl (MvI.cons SMvI.hide MvI.refl))))))))))) (ss_nilI MvI.refl)) (ss_nilI (MvI.cons SMvI.refl (MvI.cons SMvI.refl (MvI.cons SMvI.refl (MvI.cons SMvI.hide MvI.refl))))))) (ss_one (sm_retP (em_some (nnTup) (em_tupO (by rfl) U.tuple rfl (.inl rfl) (At.s (At.s At.z)))))))))))
/-! ### _law_word -/
noncomputable def m__law_word : (List Int) × Int × Int × Unit → Res ((List Int) × List Int) := kRun (S := (List Int) × Int × Int × Int × Unit) (S' := Unit) (L := Unit) (kRetL gZ (kU (fun x => .ok x) (kLc (kRange1 (kCallL m__law_take gZ pZ (kPair (kB mAdd (kV (gS (gS gZ))) (kC (1 : Int))) kU0))) (pS (pS (pS pZ))) (kCallL m__law_take gZ pZ (kPair (kV (gS gZ)) kU0))))) (iS (iS (iS (iZ (0, ()))))) (fun _ => .bad)
abbrev s__law_word : Stmt := (topS 35)
theorem sc__law_word : FnScope ["_law_draws_here", "_law_letters", "_law_most", "_law_k"] ["_law_draws_here", "_law_letters", "_law_most"] (defScope s__law_word) := ⟨rfl, rfl, rfl, by decide +kernel, rfl, by decide +kernel, by decide +kernel⟩
theorem ok__law_word {f : Addr} {fd : FuncData} (D : DefAt K mg "_law_word" s__law_word ["_law_draws_here", "_law_letters", "_law_most"] f fd) (U : Uses mg) {f__law_take : Addr} {fd__law_take : FuncData} (D__law_take : DefAt K mg "_law_take" s__law_take ["_law_draws_here", "_law_limit"] f__law_take fd__law_take) (G__law_take : FnOk P w K mg base (L2.CX P w) 1 f__law_take fd__law_take ["_law_draws_here", "_law_limit"] (spL (XRm mg) tInt (acons (fz tInt) anil) (fz tInt) m__law_take)) : FnOk P w K mg base (L2.CX P w) 2 f fd ["_law_draws_here", "_law_letters", "_law_most"] (spL (XRm mg) tInt (acons (fz tInt) (acons (fz tInt) anil)) (fz (tTup tInt)) m__law_word) :=
  fn_okK (G1 := fun _ => gnil) D.F sc__law_word rfl rfl (fun ad => (st_cons (st_cons (st_cons (st_nil (any_cons any_nil)))))) (fun ad => fall_bad) (fun ad cdv A outer s H E hr =>
    (ss_one (sm_retL At.z (em_tupL (by rfl) U.tuple (em_freeze (em_lcK (own := [("_law_k", 3)]) rfl sc__law_word.nd (im_range1 (by rfl) U.range (em_callL (takes_of rfl rfl rfl rfl) G__law_take (hr.mono (by decide)) (by rfl) D__law_take.g D__law_take.F.kp D__law_take.b rfl (.inr (.inl rfl)) At.z (am_cons (em_add (em_var rfl (.inl rfl) (At.s (At.s At.z))) em_int) am_nil))) (blkOk_by (N := ["_law_draws_here", "_law_letters", "_law_most", "_law_k"]) (sc := (defScope s__law_word)) (by decide +kernel)) (ko_keep (by decide) (ko_keep (by decide) (ko_keep (by decide) (ko_any ko_nil)))) (fun _ _ _ _ _ => (tgt_name sc__law_word.nd rfl (.inl (by rfl)) (At.s (At.s (At.s At.z))) (.inr (by rfl)))) (fun _ _ _ _ _ => (em_callL takes0 G__law_take (hr.mono (by decide)) (by rfl) D__law_take.g D__law_take.F.kp D__law_take.b rfl (by first | exact .inr (.inr rfl) | exact .inr (.inl rfl)) At.z (am_cons (em_var rfl (by first | exact .inr (.inr rfl) | exact .inr (.inl rfl)) (At.s At.z)) am_nil))) (bi_cons (bi_cons (bi_cons (bi_any bi_refl))))))))))
/-! ### _law_config -/
noncomputable def m__law_config : (List Int) × Int × (List Int) × Int × Int × Unit → Res (((List Int) × (List (List Int))) × List Int) := kRun (S := (List Int) × Int × (List Int) × Int × Int × (List Int) × Int × Unit) (S' := Unit) (L := Unit) (kSeq (kSet (kCallL m__law_marking gZ pZ (kPair (kV (gS gZ)) (kPair (kV (gS (gS (gS gZ)))) kU0))) (pS (pS (pS (pS (pS pZ)))))) (kRetL gZ (kF (fun x => (x.1, x.2.1)) (kPair (kV (gS (gS (gS (gS (gS gZ)))))) (kPair (kU (fun x => .ok x) (kLc (kV (gS (gS gZ))) (pS (pS (pS (pS (pS (pS pZ)))))) (kCallL m__law_word gZ pZ (kPair (kV (gS (gS (gS (gS (gS (gS gZ))))))) (kPair (kV (gS (gS (gS (gS gZ))))) kU0))))) kU0))))) (iS (iS (iS (iS (iS (iZ ([], 0, ()))))))) (fun _ => .bad)
abbrev s__law_config : Stmt := (topS 36)
theorem sc__law_config : FnScope ["_law_draws_here", "_law_places", "_law_channels", "_law_most", "_law_longest", "_law_marking_here", "_law_letters"] ["_law_draws_here", "_law_places", "_law_channels", "_law_most", "_law_longest"] (defScope s__law_config) := ⟨rfl, rfl, rfl, by decide +kernel, rfl, by decide +kernel, by decide +kernel⟩
theorem ok__law_config {f : Addr} {fd : FuncData} (D : DefAt K mg "_law_config" s__law_config ["_law_draws_here", "_law_places", "_law_channels", "_law_most", "_law_longest"] f fd) (U : Uses mg) {f__law_marking : Addr} {fd__law_marking : FuncData} (D__law_marking : DefAt K mg "_law_marking" s__law_marking ["_law_draws_here", "_law_size", "_law_most"] f__law_marking fd__law_marking) (G__law_marking : FnOk P w K mg base (L2.CX P w) 2 f__law_marking fd__law_marking ["_law_draws_here", "_law_size", "_law_most"] (spL (XRm mg) tInt (acons (fz tInt) (acons (fz tInt) anil)) (fz (tTup tInt)) m__law_marking)) {f__law_word : Addr} {fd__law_word : FuncData} (D__law_word : DefAt K mg "_law_word" s__law_word ["_law_draws_here", "_law_letters", "_law_most"] f__law_word fd__law_word) (G__law_word : FnOk P w K mg base (L2.CX P w) 2 f__law_word fd__law_word ["_law_draws_here", "_law_letters", "_law_most"] (spL (XRm mg) tInt (acons (fz tInt) (acons (fz tInt) anil)) (fz (tTup tInt)) m__law_word)) : FnOk P w K mg base (L2.CX P w) 3 f fd ["_law_draws_here", "_law_places", "_law_channels", "_law_most", "_law_longest"] (spL (XRm mg) tInt (acons (fz tInt) (acons (fz (tLst tInt)) (acons (fz tInt) (acons (fz tInt) anil)))) (fz (tP2 (tTup tInt) (tTup (tTup tInt)))) m__law_config) :=
  fn_okK (G1 := fun _ => gnil) D.F sc__law_config rfl rfl (fun ad => (st_cons (st_cons (st_cons (st_cons (st_cons (st_nil (any_cons (any_cons any_nil))))))))) (fun ad => fall_bad) (fun ad cdv A outer s H E hr =>
    (ss_cons (sm_set sc__law_config.nd rfl (.inl rfl) (At.s (At.s (At.s (At.s (At.s At.z))))) (em_callL (takes_of rfl rfl rfl rfl) G__law_marking (hr.mono (by decide)) (by rfl) D__law_marking.g D__law_marking.F.kp D__law_marking.b rfl (.inr (.inl rfl)) At.z (am_cons (em_var rfl (.inl rfl) (At.s At.z)) (am_cons (em_var rfl (.inl rfl) (At.s (At.s (At.s At.z)))) am_nil))) (hf := .inl rfl)) (ss_one (sm_retL At.z (em_tup2 (am_cons (em_var rfl (.inl rfl) (At.s (At.s (At.s (At.s (At.s At.z)))))) (am_cons (em_tupL (by rfl) U.tuple (em_freeze (em_lcK (own := [("_law_letters", 6)]) rfl sc__law_config.nd (im_list (em_var rfl (.inl rfl) (At.s (At.s At.z)))) (blkOk_by (N := ["_law_draws_here", "_law_places", "_law_channels", "_law_most", "_law_longest", "_law_marking_here", "_law_letters"]) (sc := (defScope s__law_config)) (by decide +kernel)) (ko_keep (by decide) (ko_keep (by decide) (ko_keep (by decide) (ko_keep (by decide) (ko_keep (by decide) (ko_keep (by decide) (ko_any ko_nil))))))) (fun _ _ _ _ _ => (tgt_name sc__law_config.nd rfl (.inl (by rfl)) (At.s (At.s (At.s (At.s (At.s (At.s At.z)))))) (.inr (by rfl)))) (fun _ _ _ _ _ => (em_callL takes0 G__law_word (hr.mono (by decide)) (by rfl) D__law_word.g D__law_word.F.kp D__law_word.b rfl (by first | exact .inr (.inr rfl) | exact .inr (.inl rfl)) At.z (am_cons (em_var rfl (.inl (by rfl)) (At.s (At.s (At.s (At.s (At.s (At.s At.z))))))) (am_cons (em_var rfl (by first | exact .inr (.inr rfl) | exact .inr (.inl rfl)) (At.s (At.s (At.s (At.s At.z))))) am_nil)))) (bi_cons (bi_cons (bi_cons (bi_cons (bi_cons (bi_cons (bi_any bi_refl)))))))))) am_nil)))))))
/-! ### _law_action -/
noncomputable def m__law_action : (List Int) × (List Int) × Unit → Res (((List (Int × Int)) × (List (Int × Int))) × List Int) := kRun (S := (List Int) × (List Int) × (List (Int × Int)) × (List (Int × Int)) × Int × Unit) (S' := Unit) (L := Unit) (kSeq (kSet (kNil (α := (Int × Int))) (pS (pS pZ))) (kSeq (kSet (kNil (α := (Int × Int))) (pS (pS (pS pZ)))) (kSeq (kFor (kRange1 (kF (fun x => (x.length : Int)) (kV (gS gZ)))) (pS (pS (pS (pS pZ)))) (kSeq (kIf (kCmp mEq (kCallL m__law_take gZ pZ (kPair (kC (3 : Int)) kU0)) (kC (0 : Int))) (kApp (gS (gS gZ)) (pS (pS pZ)) (kF (fun x => (x.1, x.2.1)) (kPair (kV (gS (gS (gS (gS gZ))))) (kPair (kCallL m__law_take gZ pZ (kPair (kB mIx (kV (gS gZ)) (kV (gS (gS (gS (gS gZ)))))) kU0)) kU0)))) kNx) (kSeq (kIf (kCmp mEq (kCallL m__law_take gZ pZ (kPair (kC (3 : Int)) kU0)) (kC (0 : Int))) (kApp (gS (gS (gS gZ))) (pS (pS (pS pZ))) (kF (fun x => (x.1, x.2.1)) (kPair (kV (gS (gS (gS (gS gZ))))) (kPair (kCallL m__law_take gZ pZ (kPair (kB mIx (kV (gS gZ)) (kV (gS (gS (gS (gS gZ)))))) kU0)) kU0)))) kNx) kNx))) (kSeq (kIf (kAnd (kCmp mEq (kLenO (gS (gS gZ))) (kC (2 : Int))) (kCmp mEq (kCallL m__law_take gZ pZ (kPair (kC (2 : Int)) kU0)) (kC (0 : Int)))) (kRev (gS (gS gZ)) (pS (pS pZ))) kNx) (kRetL gZ (kF (fun x => (x.1, x.2.1)) (kPair (kV (gS (gS gZ))) (kPair (kV (gS (gS (gS gZ)))) kU0)))))))) (iS (iS (iZ ([], [], 0, ())))) (fun _ => .bad)
noncomputable def l__law_action_3 : ((List Int) × (List Int) × (List (Int × Int)) × (List (Int × Int)) × Int × Unit) → Out ((List Int) × (List Int) × (List (Int × Int)) × (List (Int × Int)) × Int × Unit) ((List Int) × (List Int) × (List (Int × Int)) × (List (Int × Int)) × Int × Unit) (((List (Int × Int)) × (List (Int × Int))) × List Int) := (kSeq (kIf (kCmp mEq (kCallL m__law_take gZ pZ (kPair (kC (3 : Int)) kU0)) (kC (0 : Int))) (kApp (gS (gS gZ)) (pS (pS pZ)) (kF (fun x => (x.1, x.2.1)) (kPair (kV (gS (gS (gS (gS gZ))))) (kPair (kCallL m__law_take gZ pZ (kPair (kB mIx (kV (gS gZ)) (kV (gS (gS (gS (gS gZ)))))) kU0)) kU0)))) kNx) (kSeq (kIf (kCmp mEq (kCallL m__law_take gZ pZ (kPair (kC (3 : Int)) kU0)) (kC (0 : Int))) (kApp (gS (gS (gS gZ))) (pS (pS (pS pZ))) (kF (fun x => (x.1, x.2.1)) (kPair (kV (gS (gS (gS (gS gZ))))) (kPair (kCallL m__law_take gZ pZ (kPair (kB mIx (kV (gS gZ)) (kV (gS (gS (gS (gS gZ)))))) kU0)) kU0)))) kNx) kNx))
theorem n__law_action : m__law_action = kRun (S := (List Int) × (List Int) × (List (Int × Int)) × (List (Int × Int)) × Int × Unit) (S' := Unit) (L := Unit) (kSeq (kSet (kNil (α := (Int × Int))) (pS (pS pZ))) (kSeq (kSet (kNil (α := (Int × Int))) (pS (pS (pS pZ)))) (kSeq (kFor (kRange1 (kF (fun x => (x.length : Int)) (kV (gS gZ)))) (pS (pS (pS (pS pZ)))) l__law_action_3) (kSeq (kIf (kAnd (kCmp mEq (kLenO (gS (gS gZ))) (kC (2 : Int))) (kCmp mEq (kCallL m__law_take gZ pZ (kPair (kC (2 : Int)) kU0)) (kC (0 : Int)))) (kRev (gS (gS gZ)) (pS (pS pZ))) kNx) (kRetL gZ (kF (fun x => (x.1, x.2.1)) (kPair (kV (gS (gS gZ))) (kPair (kV (gS (gS (gS gZ)))) kU0)))))))) (iS (iS (iZ ([], [], 0, ())))) (fun _ => .bad) := rfl
abbrev s__law_action : Stmt := (topS 37)
theorem sc__law_action : FnScope ["_law_draws_here", "_law_channels", "_law_hears", "_law_sends", "_law_channel"] ["_law_draws_here", "_law_channels"] (defScope s__law_action) := ⟨rfl, rfl, rfl, by decide +kernel, rfl, by decide +kernel, by decide +kernel⟩
theorem ok__law_action {f : Addr} {fd : FuncData} (D : DefAt K mg "_law_action" s__law_action ["_law_draws_here", "_law_channels"] f fd) (U : Uses mg) {f__law_take : Addr} {fd__law_take : FuncData} (D__law_take : DefAt K mg "_law_take" s__law_take ["_law_draws_here", "_law_limit"] f__law_take fd__law_take) (G__law_take : FnOk P w K mg base (L2.CX P w) 1 f__law_take fd__law_take ["_law_draws_here", "_law_limit"] (spL (XRm mg) tInt (acons (fz tInt) anil) (fz tInt) m__law_take)) : FnOk P w K mg base (L2.CX P w) 2 f fd ["_law_draws_here", "_law_channels"] (spL (XRm mg) tInt (acons (fz (tLst tInt)) anil) (fz (tP2 (tTup (tP2 tInt tInt)) (tTup (tP2 tInt tInt)))) m__law_action) :=
  fn_okK (G1 := fun _ => gnil) D.F sc__law_action rfl rfl (fun ad => (st_cons (st_cons (st_nil (any_cons (any_cons (any_cons any_nil))))))) (fun ad => fall_bad) (fun ad cdv A outer s H E hr =>
    (ss_cons (sm_set sc__law_action.nd rfl (.inl rfl) (At.s (At.s At.z)) (em_lstN (am_hnil (T := (tP2 tInt tInt))) ln_nil (by decide)) (hf := .inl rfl)) (ss_cons (sm_set sc__law_action.nd rfl (.inl rfl) (At.s (At.s (At.s At.z))) (em_lstN (am_hnil (T := (tP2 tInt tInt))) ln_nil (by decide)) (hf := .inl rfl)) (ss_cons (sm_forI (passes_of rfl) rfl (im_range1 (by rfl) U.range (em_len (by rfl) U.len (em_var rfl (.inl rfl) (At.s At.z)))) MvI.refl (tgt_name sc__law_action.nd rfl (.inl rfl) (At.s (At.s (At.s (At.s At.z)))) (.inl rfl)) (ss_cons (sm_if (tm_c (cm_eqS scInt) (nomark _) (em_callL (takes_of rfl rfl rfl rfl) G__law_take (hr.mono (by decide)) (by rfl) D__law_take.g D__law_take.F.kp D__law_take.b rfl (.inl rfl) At.z (am_cons em_int am_nil)) em_int) (ss_one (sm_append rfl (.inl rfl) (At.s (At.s At.z)) (em_tup2 (am_cons (em_var rfl (.inl rfl) (At.s (At.s (At.s (At.s At.z))))) (am_cons (em_callL (takes_of rfl rfl rfl rfl) G__law_take (hr.mono (by decide)) (by rfl) D__law_take.g D__law_take.F.kp D__law_take.b rfl (.inl rfl) At.z (am_cons (em_ixL (fun _ _ => rfl) (em_var rfl (.inl rfl) (At.s At.z)) (em_var rfl (.inl rfl) (At.s (At.s (At.s (At.s At.z)))))) am_nil)) am_nil))) (fun _ _ h h2 => pe_bm PySem.F.plainAttrs_list PySem.F.slot_list_append PySem.F.type_list_append mt_append h (pa_cons h2 pa_nil)))) (ss_nilI MvI.refl)) (ss_cons (sm_if (tm_c (cm_eqS scInt) (nomark _) (em_callL (takes_of rfl rfl rfl rfl) G__law_take (hr.mono (by decide)) (by rfl) D__law_take.g D__law_take.F.kp D__law_take.b rfl (.inl rfl) At.z (am_cons em_int am_nil)) em_int) (ss_one (sm_append rfl (.inl rfl) (At.s (At.s (At.s At.z))) (em_tup2 (am_cons (em_var rfl (.inl rfl) (At.s (At.s (At.s (At.s At.z))))) (am_cons (em_callL (takes_of rfl rfl rfl rfl) G__law_take (hr.mono (by decide)) (by rfl) D__law_take.g D__law_take.F.kp D__law_take.b rfl (.inl rfl) At.z (am_cons (em_ixL (fun _ _ => rfl) (em_var rfl (.inl rfl) (At.s At.z)) (em_var rfl (.inl rfl) (At.s (At.s (At.s (At.s At.z)))))) am_nil)) am_nil))) (fun _ _ h h2 => pe_bm PySem.F.plainAttrs_list PySem.F.slot_list_append PySem.F.type_list_append mt_append h (pa_cons h2 pa_nil)))) (ss_nilI MvI.refl)) (ss_nilI (MvI.cons SMvI.refl (MvI.cons SMvI.refl (MvI.cons SMvI.refl (MvI.cons SMvI.refl (MvI.cons SMvI.hide MvI.refl))))))))) (ss_cons (sm_if (tm_b (bm_and (tm_c (cm_eqS scInt) (nomark _) (em_lenO (by rfl) U.len rfl (.inl rfl) (At.s (At.s At.z))) em_int) (bm_and1 (tm_c (cm_eqS scInt) (nomark _) (em_callL (takes_of rfl rfl rfl rfl) G__law_take (hr.mono (by decide)) (by rfl) D__law_take.g D__law_take.F.kp D__law_take.b rfl (.inl rfl) At.z (am_cons em_int am_nil)) em_int)))) (ss_one (sm_reverse rfl (.inl rfl) (At.s (At.s At.z)) (fun _ h => pe_bm0 PySem.F.plainAttrs_list PySem.F.slot_list_reverse PySem.F.type_list_reverse mt_reverse h))) (ss_nilI MvI.refl)) (ss_one (sm_retL At.z (em_tup2 (am_cons (em_tupO (by rfl) U.tuple rfl (.inl rfl) (At.s (At.s At.z))) (am_cons (em_tupO (by rfl) U.tuple rfl (.inl rfl) (At.s (At.s (At.s At.z)))) am_nil))))))))))
/-! ### _law_mail_step -/
noncomputable def m__law_mail_step : (List ((List Int) × (List Int) × (List Int))) × (List ((List (Int × Int)) × (List (Int × Int)))) × ((List Int) × (List (List Int))) × (((List Nat) × Int × Int) ⊕ ((List Nat) × Int)) × Unit → Res (Option ((List Int) × (List (List Int)))) := kRun (S := (List ((List Int) × (List Int) × (List Int))) × (List ((List (Int × Int)) × (List (Int × Int)))) × ((List Int) × (List (List Int))) × (((List Nat) × Int × Int) ⊕ ((List Nat) × Int)) × (List (List Int)) × (Int × Int) × (Option (List Int)) × (List (List Int)) × Int × (List Int) × Unit) (S' := Unit) (L := Unit) (kSeq (kSet (kV (gS (gS gZ))) (pP (pS (pS (pS (pS (pS (pS pZ)))))) (pS (pS (pS (pS (pS (pS (pS pZ))))))))) (kSeq (kIf (kCmp mEq (kU (mAlt (fun x => .ok x.1) (fun x => .ok x.1)) (kV (gS (gS (gS gZ))))) (kC ([108, 111, 115, 101] : List Nat))) (kSeq (kSet (kU (mAlt (fun x => .ok x.2.1) (fun x => .ok x.2)) (kV (gS (gS (gS gZ))))) (pS (pS (pS (pS (pS (pS (pS (pS pZ))))))))) (kSeq (kIf (kOr (kCmp mLt (kV (gS (gS (gS (gS (gS (gS (gS (gS gZ))))))))) (kC (0 : Int))) (kOr (kCmp mGe (kV (gS (gS (gS (gS (gS (gS (gS (gS gZ))))))))) (kF (fun x => (x.length : Int)) (kV (gS (gS (gS (gS (gS (gS (gS gZ)))))))))) (kOr (kCmp mLt (kU (mAlt (fun x => .ok x.2.2) (fun _ => .bad)) (kV (gS (gS (gS gZ))))) (kC (0 : Int))) (kCmp mGe (kU (mAlt (fun x => .ok x.2.2) (fun _ => .bad)) (kV (gS (gS (gS gZ))))) (kF (fun x => (x.length : Int)) (kB mIx (kV (gS (gS (gS (gS (gS (gS (gS gZ)))))))) (kV (gS (gS (gS (gS (gS (gS (gS (gS gZ))))))))))))))) (kRet (kC (none : (Option ((List Int) × (List (List Int))))))) kNx) (kSeq (kSet (kB mCat (kCut (kB mIx (kV (gS (gS (gS (gS (gS (gS (gS gZ)))))))) (kV (gS (gS (gS (gS (gS (gS (gS (gS gZ)))))))))) (kC none) (kF some (kU (mAlt (fun x => .ok x.2.2) (fun _ => .bad)) (kV (gS (gS (gS gZ))))))) (kCut (kB mIx (kV (gS (gS (gS (gS (gS (gS (gS gZ)))))))) (kV (gS (gS (gS (gS (gS (gS (gS (gS gZ)))))))))) (kF some (kB mAdd (kU (mAlt (fun x => .ok x.2.2) (fun _ => .bad)) (kV (gS (gS (gS gZ))))) (kC (1 : Int)))) (kC none))) (pS (pS (pS (pS (pS (pS (pS (pS (pS pZ)))))))))) (kRet (kF some (kF (fun x => (x.1, x.2.1)) (kPair (kV (gS (gS (gS (gS (gS (gS gZ))))))) (kPair (kB mCat (kB mCat (kCut (kV (gS (gS (gS (gS (gS (gS (gS gZ)))))))) (kC none) (kF some (kV (gS (gS (gS (gS (gS (gS (gS (gS gZ))))))))))) (kCons (kV (gS (gS (gS (gS (gS (gS (gS (gS (gS gZ)))))))))) kNil)) (kCut (kV (gS (gS (gS (gS (gS (gS (gS gZ)))))))) (kF some (kB mAdd (kV (gS (gS (gS (gS (gS (gS (gS (gS gZ))))))))) (kC (1 : Int)))) (kC none))) kU0)))))))) kNx) (kSeq (kIf (kOr (kCmp mLt (kU (mAlt (fun x => .ok x.2.1) (fun x => .ok x.2)) (kV (gS (gS (gS gZ))))) (kC (0 : Int))) (kCmp mGe (kU (mAlt (fun x => .ok x.2.1) (fun x => .ok x.2)) (kV (gS (gS (gS gZ))))) (kF (fun x => (x.length : Int)) (kV gZ)))) (kRet (kC (none : (Option ((List Int) × (List (List Int))))))) kNx) (kSeq (kSet (kU (fun x => .ok x) (kV (gS (gS (gS (gS (gS (gS (gS gZ))))))))) (pS (pS (pS (pS pZ))))) (kSeq (kFor (kF (fun x => x.1) (kB mIx (kV (gS gZ)) (kU (mAlt (fun x => .ok x.2.1) (fun x => .ok x.2)) (kV (gS (gS (gS gZ))))))) (pS (pS (pS (pS (pS pZ))))) (kSeq (kSet (kF (fun x => x.1) (kV (gS (gS (gS (gS (gS gZ))))))) (pS (pS (pS (pS (pS (pS (pS (pS pZ))))))))) (kSeq (kIf (kCmp mNe (kCut (kIxO (gS (gS (gS (gS gZ)))) (kV (gS (gS (gS (gS (gS (gS (gS (gS gZ)))))))))) (kC none) (kF some (kC (1 : Int)))) (kCons (kF (fun x => x.2) (kV (gS (gS (gS (gS (gS gZ))))))) kNil)) (kRet (kC (none : (Option ((List Int) × (List (List Int))))))) kNx) (kSeq (kStore (gS (gS (gS (gS gZ)))) (pS (pS (pS (pS pZ)))) (kCut (kIxO (gS (gS (gS (gS gZ)))) (kV (gS (gS (gS (gS (gS (gS (gS (gS gZ)))))))))) (kF some (kC (1 : Int))) (kC none)) (kV (gS (gS (gS (gS (gS (gS (gS (gS gZ)))))))))) kNx)))) (kSeq (kFor (kF (fun x => x.2) (kB mIx (kV (gS gZ)) (kU (mAlt (fun x => .ok x.2.1) (fun x => .ok x.2)) (kV (gS (gS (gS gZ))))))) (pS (pS (pS (pS (pS pZ))))) (kSeq (kSet (kF (fun x => x.1) (kV (gS (gS (gS (gS (gS gZ))))))) (pS (pS (pS (pS (pS (pS (pS (pS pZ))))))))) (kSeq (kStore (gS (gS (gS (gS gZ)))) (pS (pS (pS (pS pZ)))) (kB mCat (kIxO (gS (gS (gS (gS gZ)))) (kV (gS (gS (gS (gS (gS (gS (gS (gS gZ)))))))))) (kCons (kF (fun x => x.2) (kV (gS (gS (gS (gS (gS gZ))))))) kNil)) (kV (gS (gS (gS (gS (gS (gS (gS (gS gZ)))))))))) kNx))) (kSeq (kSet (kU m__law_fire (kPair (kB mIx (kV gZ) (kU (mAlt (fun x => .ok x.2.1) (fun x => .ok x.2)) (kV (gS (gS (gS gZ)))))) (kPair (kV (gS (gS (gS (gS (gS (gS gZ))))))) kU0))) (pS (pS (pS (pS (pS (pS pZ))))))) (kSeq (kIf (kF Option.isNone (kV (gS (gS (gS (gS (gS (gS gZ)))))))) (kRet (kC (none : (Option ((List Int) × (List (List Int))))))) kNx) (kRet (kF some (kF (fun x => (x.1, x.2.1)) (kPair (kU mSome (kV (gS (gS (gS (gS (gS (gS gZ)))))))) (kPair (kV (gS (gS (gS (gS gZ))))) kU0))))))))))))) (iS (iS (iS (iS (iZ ([], (0, 0), none, [], 0, [], ())))))) (fun _ => .bad)
noncomputable def l__law_mail_step_11 : ((List ((List Int) × (List Int) × (List Int))) × (List ((List (Int × Int)) × (List (Int × Int)))) × ((List Int) × (List (List Int))) × (((List Nat) × Int × Int) ⊕ ((List Nat) × Int)) × (List (List Int)) × (Int × Int) × (List Int) × (List (List Int)) × Int × (List Int) × Unit) → Out ((List ((List Int) × (List Int) × (List Int))) × (List ((List (Int × Int)) × (List (Int × Int)))) × ((List Int) × (List (List Int))) × (((List Nat) × Int × Int) ⊕ ((List Nat) × Int)) × (List (List Int)) × (Int × Int) × (List Int) × (List (List Int)) × Int × (List Int) × Unit) ((List ((List Int) × (List Int) × (List Int))) × (List ((List (Int × Int)) × (List (Int × Int)))) × ((List Int) × (List (List Int))) × (((List Nat) × Int × Int) ⊕ ((List Nat) × Int)) × (List (List Int)) × (Int × Int) × (List Int) × (List (List Int)) × Int × (List Int) × Unit) (Option ((List Int) × (List (List Int)))) := (kSeq (kSet (kF (fun x => x.1) (kV (gS (gS (gS (gS (gS gZ))))))) (pS (pS (pS (pS (pS (pS (pS (pS pZ))))))))) (kSeq (kIf (kCmp mNe (kCut (kIxO (gS (gS (gS (gS gZ)))) (kV (gS (gS (gS (gS (gS (gS (gS (gS gZ)))))))))) (kC none) (kF some (kC (1 : Int)))) (kCons (kF (fun x => x.2) (kV (gS (gS (gS (gS (gS gZ))))))) kNil)) (kRet (kC (none : (Option ((List Int) × (List (List Int))))))) kNx) (kSeq (kStore (gS (gS (gS (gS gZ)))) (pS (pS (pS (pS pZ)))) (kCut (kIxO (gS (gS (gS (gS gZ)))) (kV (gS (gS (gS (gS (gS (gS (gS (gS gZ)))))))))) (kF some (kC (1 : Int))) (kC none)) (kV (gS (gS (gS (gS (gS (gS (gS (gS gZ)))))))))) kNx)))
noncomputable def l__law_mail_step_16 : ((List ((List Int) × (List Int) × (List Int))) × (List ((List (Int × Int)) × (List (Int × Int)))) × ((List Int) × (List (List Int))) × (((List Nat) × Int × Int) ⊕ ((List Nat) × Int)) × (List (List Int)) × (Int × Int) × (List Int) × (List (List Int)) × Int × (List Int) × Unit) → Out ((List ((List Int) × (List Int) × (List Int))) × (List ((List (Int × Int)) × (List (Int × Int)))) × ((List Int) × (List (List Int))) × (((List Nat) × Int × Int) ⊕ ((List Nat) × Int)) × (List (List Int)) × (Int × Int) × (List Int) × (List (List Int)) × Int × (List Int) × Unit) ((List ((List Int) × (List Int) × (List Int))) × (List ((List (Int × Int)) × (List (Int × Int)))) × ((List Int) × (List (List Int))) × (((List Nat) × Int × Int) ⊕ ((List Nat) × Int)) × (List (List Int)) × (Int × Int) × (List Int) × (List (List Int)) × Int × (List Int) × Unit) (Option ((List Int) × (List (List Int)))) := (kSeq (kSet (kF (fun x => x.1) (kV (gS (gS (gS (gS (gS gZ))))))) (pS (pS (pS (pS (pS (pS (pS (pS pZ))))))))) (kSeq (kStore (gS (gS (gS (gS gZ)))) (pS (pS (pS (pS pZ)))) (kB mCat (kIxO (gS (gS (gS (gS gZ)))) (kV (gS (gS (gS (gS (gS (gS (gS (gS gZ)))))))))) (kCons (kF (fun x => x.2) (kV (gS (gS (gS (gS (gS gZ))))))) kNil)) (kV (gS (gS (gS (gS (gS (gS (gS (gS gZ)))))))))) kNx))
theorem n__law_mail_step : m__law_mail_step = kRun (S := (List ((List Int) × (List Int) × (List Int))) × (List ((List (Int × Int)) × (List (Int × Int)))) × ((List Int) × (List (List Int))) × (((List Nat) × Int × Int) ⊕ ((List Nat) × Int)) × (List (List Int)) × (Int × Int) × (Option (List Int)) × (List (List Int)) × Int × (List Int) × Unit) (S' := Unit) (L := Unit) (kSeq (kSet (kV (gS (gS gZ))) (pP (pS (pS (pS (pS (pS (pS pZ)))))) (pS (pS (pS (pS (pS (pS (pS pZ))))))))) (kSeq (kIf (kCmp mEq (kU (mAlt (fun x => .ok x.1) (fun x => .ok x.1)) (kV (gS (gS (gS gZ))))) (kC ([108, 111, 115, 101] : List Nat))) (kSeq (kSet (kU (mAlt (fun x => .ok x.2.1) (fun x => .ok x.2)) (kV (gS (gS (gS gZ))))) (pS (pS (pS (pS (pS (pS (pS (pS pZ))))))))) (kSeq (kIf (kOr (kCmp mLt (kV (gS (gS (gS (gS (gS (gS (gS (gS gZ))))))))) (kC (0 : Int))) (kOr (kCmp mGe (kV (gS (gS (gS (gS (gS (gS (gS (gS gZ))))))))) (kF (fun x => (x.length : Int)) (kV (gS (gS (gS (gS (gS (gS (gS gZ)))))))))) (kOr (kCmp mLt (kU (mAlt (fun x => .ok x.2.2) (fun _ => .bad)) (kV (gS (gS (gS gZ))))) (kC (0 : Int))) (kCmp mGe (kU (mAlt (fun x => .ok x.2.2) (fun _ => .bad)) (kV (gS (gS (gS gZ))))) (kF (fun x => (x.length : Int)) (kB mIx (kV (gS (gS (gS (gS (gS (gS (gS gZ)))))))) (kV (gS (gS (gS (gS (gS (gS (gS (gS gZ))))))))))))))) (kRet (kC (none : (Option ((List Int) × (List (List Int))))))) kNx) (kSeq (kSet (kB mCat (kCut (kB mIx (kV (gS (gS (gS (gS (gS (gS (gS gZ)))))))) (kV (gS (gS (gS (gS (gS (gS (gS (gS gZ)))))))))) (kC none) (kF some (kU (mAlt (fun x => .ok x.2.2) (fun _ => .bad)) (kV (gS (gS (gS gZ))))))) (kCut (kB mIx (kV (gS (gS (gS (gS (gS (gS (gS gZ)))))))) (kV (gS (gS (gS (gS (gS (gS (gS (gS gZ)))))))))) (kF some (kB mAdd (kU (mAlt (fun x => .ok x.2.2) (fun _ => .bad)) (kV (gS (gS (gS gZ))))) (kC (1 : Int)))) (kC none))) (pS (pS (pS (pS (pS (pS (pS (pS (pS pZ)))))))))) (kRet (kF some (kF (fun x => (x.1, x.2.1)) (kPair (kV (gS (gS (gS (gS (gS (gS gZ))))))) (kPair (kB mCat (kB mCat (kCut (kV (gS (gS (gS (gS (gS (gS (gS gZ)))))))) (kC none) (kF some (kV (gS (gS (gS (gS (gS (gS (gS (gS gZ))))))))))) (kCons (kV (gS (gS (gS (gS (gS (gS (gS (gS (gS gZ)))))))))) kNil)) (kCut (kV (gS (gS (gS (gS (gS (gS (gS gZ)))))))) (kF some (kB mAdd (kV (gS (gS (gS (gS (gS (gS (gS (gS gZ))))))))) (kC (1 : Int)))) (kC none))) kU0)))))))) kNx) (kSeq (kIf (kOr (kCmp mLt (kU (mAlt (fun x => .ok x.2.1) (fun x => .ok x.2)) (kV (gS (gS (gS gZ))))) (kC (0 : Int))) (kCmp mGe (kU (mAlt (fun x => .ok x.2.1) (fun x => .ok x.2)) (kV (gS (gS (gS gZ))))) (kF (fun x => (x.length : Int)) (kV gZ)))) (kRet (kC (none : (Option ((List Int) × (List (List Int))))))) kNx) (kSeq (kSet (kU (fun x => .ok x) (kV (gS (gS (gS (gS (gS (gS (gS gZ))))))))) (pS (pS (pS (pS pZ))))) (kSeq (kFor (kF (fun x => x.1) (kB mIx (kV (gS gZ)) (kU (mAlt (fun x => .ok x.2.1) (fun x => .ok x.2)) (kV (gS (gS (gS gZ))))))) (pS (pS (pS (pS (pS pZ))))) l__law_mail_step_11) (kSeq (kFor (kF (fun x => x.2) (kB mIx (kV (gS gZ)) (kU (mAlt (fun x => .ok x.2.1) (fun x => .ok x.2)) (kV (gS (gS (gS gZ))))))) (pS (pS (pS (pS (pS pZ))))) l__law_mail_step_16) (kSeq (kSet (kU m__law_fire (kPair (kB mIx (kV gZ) (kU (mAlt (fun x => .ok x.2.1) (fun x => .ok x.2)) (kV (gS (gS (gS gZ)))))) (kPair (kV (gS (gS (gS (gS (gS (gS gZ))))))) kU0))) (pS (pS (pS (pS (pS (pS pZ))))))) (kSeq (kIf (kF Option.isNone (kV (gS (gS (gS (gS (gS (gS gZ)))))))) (kRet (kC (none : (Option ((List Int) × (List (List Int))))))) kNx) (kRet (kF some (kF (fun x => (x.1, x.2.1)) (kPair (kU mSome (kV (gS (gS (gS (gS (gS (gS gZ)))))))) (kPair (kV (gS (gS (gS (gS gZ))))) kU0))))))))))))) (iS (iS (iS (iS (iZ ([], (0, 0), none, [], 0, [], ())))))) (fun _ => .bad) := rfl
abbrev s__law_mail_step : Stmt := (topS 38)
theorem sc__law_mail_step : FnScope ["_law_transitions", "_law_actions", "_law_config_here", "_law_step", "_law_after", "_law_pair", "_law_marking_here", "_law_words", "_law_channel", "_law_word_here"] ["_law_transitions", "_law_actions", "_law_config_here", "_law_step"] (defScope s__law_mail_step) := ⟨rfl, rfl, rfl, by decide +kernel, rfl, by decide +kernel, by decide +kernel⟩
theorem ok__law_mail_step {f : Addr} {fd : FuncData} (D : DefAt K mg "_law_mail_step" s__law_mail_step ["_law_transitions", "_law_actions", "_law_config_here", "_law_step"] f fd) (U : Uses mg) {f__law_fire : Addr} {fd__law_fire : FuncData} (D__law_fire : DefAt K mg "_law_fire" s__law_fire ["_law_transition_here", "_law_marking_here"] f__law_fire fd__law_fire) (G__law_fire : FnOk P w K mg base (L2.CX P w) 2 f__law_fire fd__law_fire ["_law_transition_here", "_law_marking_here"] (spP (XRm mg) (acons (fz (tP3 (tTup tInt) (tTup tInt) (tTup tInt))) (acons (fz (tTup tInt)) anil)) (fz (tOpt (tTup tInt))) m__law_fire)) : FnOk P w K mg base (L2.CX P w) 3 f fd ["_law_transitions", "_law_actions", "_law_config_here", "_law_step"] (spP (XRm mg) (acons (fz (tLst (tP3 (tTup tInt) (tTup tInt) (tTup tInt)))) (acons (fz (tLst (tP2 (tTup (tP2 tInt tInt)) (tTup (tP2 tInt tInt))))) (acons (fz (tP2 (tTup tInt) (tTup (tTup tInt)))) (acons (fz (tAlt (tP3 tTxt tInt tInt) (tP2 tTxt tInt))) anil)))) (fz (tOpt (tP2 (tTup tInt) (tTup (tTup tInt))))) m__law_mail_step) :=
  fn_okK (G1 := fun _ => gnil) D.F sc__law_mail_step rfl rfl (fun _ => (st_cons (st_cons (st_cons (st_cons (st_nil (any_cons (any_cons (any_cons (any_cons (any_cons (any_cons any_nil)))))))))))) (fun _ => fall_bad) (fun _ cdv A outer s H E hr =>
    (ss_cons (sm_unpack (R := fz (tP2 (tTup tInt) (tTup (tTup tInt)))) (tgt_pair rfl sc__law_mail_step.nd rfl (.inl rfl) rfl (.inl rfl) (At.s (At.s (At.s (At.s (At.s (At.s At.z)))))) (At.s (At.s (At.s (At.s (At.s (At.s (At.s At.z))))))) (fun h h2 => pg_tup rfl (pgs_cons h (pgs_cons h2 pgs_nil))) (.inl rfl) (.inl rfl)) (em_var rfl (.inl rfl) (At.s (At.s At.z))) (fun _ _ h h2 => ps_asg h h2)) (ss_cons (sm_if (tm_c (cm_eqS scTxt) (nomark _) (em_ixAlt (R := fz tTxt) o2_t0 o2_p0 (fun _ _ => okne) (fun _ _ => okne) (em_var rfl (.inl rfl) (At.s (At.s (At.s At.z))))) (em_txt (x := ([108, 111, 115, 101] : List Nat)) (by decide +kernel) (by decide))) (ss_cons (sm_set sc__law_mail_step.nd rfl (.inl rfl) (At.s (At.s (At.s (At.s (At.s (At.s (At.s (At.s At.z)))))))) (em_ixAlt (R := fz tInt) o2_t1 o2_p1 (fun _ _ => okne) (fun _ _ => okne) (em_var rfl (.inl rfl) (At.s (At.s (At.s At.z))))) (hf := .inl rfl)) (ss_cons (sm_if (tm_b (bm_or (tm_c cm_lt (nomark _) (em_var rfl (.inl rfl) (At.s (At.s (At.s (At.s (At.s (At.s (At.s (At.s At.z))))))))) em_int) (bm_or (tm_c cm_ge (nomark _) (em_var rfl (.inl rfl) (At.s (At.s (At.s (At.s (At.s (At.s (At.s (At.s At.z))))))))) (em_lenT (by rfl) U.len (em_var rfl (.inl rfl) (At.s (At.s (At.s (At.s (At.s (At.s (At.s At.z)))))))))) (bm_or (tm_c cm_lt (nomark _) (em_ixAlt (R := fz tInt) o2_t2 o1_bad (fun _ _ => okne) (fun _ _ => badne) (em_var rfl (.inl rfl) (At.s (At.s (At.s At.z))))) em_int) (bm_or1 (tm_c cm_ge (nomark _) (em_ixAlt (R := fz tInt) o2_t2 o1_bad (fun _ _ => okne) (fun _ _ => badne) (em_var rfl (.inl rfl) (At.s (At.s (At.s At.z))))) (em_lenT (by rfl) U.len (em_ixT (fun _ _ => rfl) (em_var rfl (.inl rfl) (At.s (At.s (At.s (At.s (At.s (At.s (At.s At.z)))))))) (em_var rfl (.inl rfl) (At.s (At.s (At.s (At.s (At.s (At.s (At.s (At.s At.z))))))))))))))))) (ss_one (sm_retP (em_none (T := (tP2 (tTup tInt) (tTup (tTup tInt))))))) (ss_nilI MvI.refl)) (ss_cons (sm_set sc__law_mail_step.nd rfl (.inl rfl) (At.s (At.s (At.s (At.s (At.s (At.s (At.s (At.s (At.s At.z))))))))) (em_catT (em_cutT (em_ixT (fun _ _ => rfl) (em_var rfl (.inl rfl) (At.s (At.s (At.s (At.s (At.s (At.s (At.s At.z)))))))) (em_var rfl (.inl rfl) (At.s (At.s (At.s (At.s (At.s (At.s (At.s (At.s At.z)))))))))) om_none (om_some (em_ixAlt (R := fz tInt) o2_t2 o1_bad (fun _ _ => okne) (fun _ _ => badne) (em_var rfl (.inl rfl) (At.s (At.s (At.s At.z))))))) (em_cutT (em_ixT (fun _ _ => rfl) (em_var rfl (.inl rfl) (At.s (At.s (At.s (At.s (At.s (At.s (At.s At.z)))))))) (em_var rfl (.inl rfl) (At.s (At.s (At.s (At.s (At.s (At.s (At.s (At.s At.z)))))))))) (om_some (em_add (em_ixAlt (R := fz tInt) o2_t2 o1_bad (fun _ _ => okne) (fun _ _ => badne) (em_var rfl (.inl rfl) (At.s (At.s (At.s At.z))))) em_int)) om_none)) (hf := .inl rfl)) (ss_one (sm_retP (em_some (nnP2) (em_tup2 (am_cons (em_var rfl (.inl rfl) (At.s (At.s (At.s (At.s (At.s (At.s At.z))))))) (am_cons (em_catT (em_catT (em_cutT (em_var rfl (.inl rfl) (At.s (At.s (At.s (At.s (At.s (At.s (At.s At.z)))))))) om_none (om_some (em_var rfl (.inl rfl) (At.s (At.s (At.s (At.s (At.s (At.s (At.s (At.s At.z))))))))))) (em_tupN (am_hcons (em_var rfl (.inl rfl) (At.s (At.s (At.s (At.s (At.s (At.s (At.s (At.s (At.s At.z)))))))))) (am_hnil (T := (tTup tInt)))) (ln_cons ln_nil) (by decide))) (em_cutT (em_var rfl (.inl rfl) (At.s (At.s (At.s (At.s (At.s (At.s (At.s At.z)))))))) (om_some (em_add (em_var rfl (.inl rfl) (At.s (At.s (At.s (At.s (At.s (At.s (At.s (At.s At.z))))))))) em_int)) om_none)) am_nil))))))))) (ss_nilI MvI.refl)) (ss_cons (sm_if (tm_b (bm_or (tm_c cm_lt (nomark _) (em_ixAlt (R := fz tInt) o2_t1 o2_p1 (fun _ _ => okne) (fun _ _ => okne) (em_var rfl (.inl rfl) (At.s (At.s (At.s At.z))))) em_int) (bm_or1 (tm_c cm_ge (nomark _) (em_ixAlt (R := fz tInt) o2_t1 o2_p1 (fun _ _ => okne) (fun _ _ => okne) (em_var rfl (.inl rfl) (At.s (At.s (At.s At.z))))) (em_len (by rfl) U.len (em_var rfl (.inl rfl) At.z)))))) (ss_one (sm_retP (em_none (T := (tP2 (tTup tInt) (tTup (tTup tInt))))))) (ss_nilI MvI.refl)) (ss_cons (sm_set sc__law_mail_step.nd rfl (.inl rfl) (At.s (At.s (At.s (At.s At.z)))) (em_listT (by rfl) U.list (em_var rfl (.inl rfl) (At.s (At.s (At.s (At.s (At.s (At.s (At.s At.z))))))))) (hf := .inl rfl)) (ss_cons (sm_forI (passes_of rfl) rfl (im_tup (em_p0 (em_ixL (fun _ _ => rfl) (em_var rfl (.inl rfl) (At.s At.z)) (em_ixAlt (R := fz tInt) o2_t1 o2_p1 (fun _ _ => okne) (fun _ _ => okne) (em_var rfl (.inl rfl) (At.s (At.s (At.s At.z)))))))) MvI.refl (tgt_name sc__law_mail_step.nd rfl (.inl rfl) (At.s (At.s (At.s (At.s (At.s At.z))))) (.inl rfl)) (ss_cons (sm_set sc__law_mail_step.nd rfl (.inl rfl) (At.s (At.s (At.s (At.s (At.s (At.s (At.s (At.s At.z)))))))) (em_p0 (em_var rfl (.inl rfl) (At.s (At.s (At.s (At.s (At.s At.z))))))) (hf := .inl rfl)) (ss_cons (sm_if (tm_c (cm_neD (eqTup eqInt) hr.units (by show (0 + 1) ≤ 64; decide)) (nomark _) (em_cutT (em_ixO rfl (.inl rfl) (At.s (At.s (At.s (At.s At.z)))) (fun _ _ => rfl) (em_var rfl (.inl rfl) (At.s (At.s (At.s (At.s (At.s (At.s (At.s (At.s At.z)))))))))) om_none (om_some em_int)) (em_tupN (am_hcons (em_p1 (em_var rfl (.inl rfl) (At.s (At.s (At.s (At.s (At.s At.z))))))) (am_hnil (T := tInt))) (ln_cons ln_nil) (by decide))) (ss_one (sm_retP (em_none (T := (tP2 (tTup tInt) (tTup (tTup tInt))))))) (ss_nilI MvI.refl)) (ss_cons (sm_setIx rfl (.inl rfl) (At.s (At.s (At.s (At.s At.z)))) (em_cutT (em_ixO rfl (.inl rfl) (At.s (At.s (At.s (At.s At.z)))) (fun _ _ => rfl) (em_var rfl (.inl rfl) (At.s (At.s (At.s (At.s (At.s (At.s (At.s (At.s At.z)))))))))) (om_some em_int) om_none) (em_var rfl (.inl rfl) (At.s (At.s (At.s (At.s (At.s (At.s (At.s (At.s At.z))))))))) (fun _ _ _ h h2 h3 => ps_asg h (pg_sub h2 h3 set_list))) (ss_nilI (MvI.cons SMvI.refl (MvI.cons SMvI.refl (MvI.cons SMvI.refl (MvI.cons SMvI.refl (MvI.cons SMvI.refl (MvI.cons SMvI.hide (MvI.cons SMvI.refl (MvI.cons SMvI.refl (MvI.cons SMvI.hide MvI.refl)))))))))))))) (ss_cons (sm_forI (passes_of rfl) rfl (im_tup (em_p1 (em_ixL (fun _ _ => rfl) (em_var rfl (.inl rfl) (At.s At.z)) (em_ixAlt (R := fz tInt) o2_t1 o2_p1 (fun _ _ => okne) (fun _ _ => okne) (em_var rfl (.inl rfl) (At.s (At.s (At.s At.z)))))))) MvI.refl (tgt_name sc__law_mail_step.nd rfl (.inl rfl) (At.s (At.s (At.s (At.s (At.s At.z))))) (.inl rfl)) (ss_cons (sm_set sc__law_mail_step.nd rfl (.inl rfl) (At.s (At.s (At.s (At.s (At.s (At.s (At.s (At.s At.z)))))))) (em_p0 (em_var rfl (.inl rfl) (At.s (At.s (At.s (At.s (At.s At.z))))))) (hf := .inl rfl)) (ss_cons (sm_setIx rfl (.inl rfl) (At.s (At.s (At.s (At.s At.z)))) (em_catT (em_ixO rfl (.inl rfl) (At.s (At.s (At.s (At.s At.z)))) (fun _ _ => rfl) (em_var rfl (.inl rfl) (At.s (At.s (At.s (At.s (At.s (At.s (At.s (At.s At.z)))))))))) (em_tupN (am_hcons (em_p1 (em_var rfl (.inl rfl) (At.s (At.s (At.s (At.s (At.s At.z))))))) (am_hnil (T := tInt))) (ln_cons ln_nil) (by decide))) (em_var rfl (.inl rfl) (At.s (At.s (At.s (At.s (At.s (At.s (At.s (At.s At.z))))))))) (fun _ _ _ h h2 h3 => ps_asg h (pg_sub h2 h3 set_list))) (ss_nilI (MvI.cons SMvI.refl (MvI.cons SMvI.refl (MvI.cons SMvI.refl (MvI.cons SMvI.refl (MvI.cons SMvI.refl (MvI.cons SMvI.hide (MvI.cons SMvI.refl (MvI.cons SMvI.refl (MvI.cons SMvI.hide MvI.refl))))))))))))) (ss_cons (sm_set sc__law_mail_step.nd rfl (.inl rfl) (At.s (At.s (At.s (At.s (At.s (At.s At.z)))))) (em_call (takes_of rfl rfl rfl rfl) G__law_fire (hr.mono (by decide)) (by rfl) D__law_fire.g D__law_fire.F.kp D__law_fire.b (am_cons (em_ixL (fun _ _ => rfl) (em_var rfl (.inl rfl) At.z) (em_ixAlt (R := fz tInt) o2_t1 o2_p1 (fun _ _ => okne) (fun _ _ => okne) (em_var rfl (.inl rfl) (At.s (At.s (At.s At.z)))))) (am_cons (em_var rfl (.inl rfl) (At.s (At.s (At.s (At.s (At.s (At.s At.z))))))) am_nil))) (hf := .inl rfl)) (ss_cons (sm_if (tm_isN (em_var rfl (.inl rfl) (At.s (At.s (At.s (At.s (At.s (At.s At.z)))))))) (ss_one (sm_retP (em_none (T := (tP2 (tTup tInt) (tTup (tTup tInt))))))) (ss_nilI MvI.refl)) (ss_one (sm_retP (em_some (nnP2) (em_tup2 (am_cons (em_getO (em_var rfl (.inl rfl) (At.s (At.s (At.s (At.s (At.s (At.s At.z)))))))) (am_cons (em_tupO (by rfl) U.tuple rfl (.inl rfl) (At.s (At.s (At.s (At.s At.z))))) am_nil)))))))))))))))
/-! ### _law_outcome -/
noncomputable def m__law_outcome : RMailNet × ((List Int) × (List (List Int))) × (List (((List Nat) × Int × Int) ⊕ ((List Nat) × Int))) × Unit → Res (((List Nat) × ((List Int) × (List (List Int)))) ⊕ ((List Nat) × Int)) := kRun (S := RMailNet × ((List Int) × (List (List Int))) × (List (((List Nat) × Int × Int) ⊕ ((List Nat) × Int))) × Unit × Unit) (S' := Unit) (L := Unit) (kTry "NotEnabled" (kRet (kF Sum.inl (kF (fun x => (x.1, x.2.1)) (kPair (kC ([101, 110, 100] : List Nat)) (kPair (kU m_take_mail (kPair (kV gZ) (kPair (kV (gS gZ)) (kPair (kV (gS (gS gZ))) kU0)))) kU0))))) (fun v => match v with | some n => .rt ((fun n => Sum.inr (([115, 116, 111, 112] : List Nat), n)) n) | none => .bad)) (iS (iS (iS (iZ ((), ()))))) (fun _ => .bad)
abbrev s__law_outcome : Stmt := (topS 39)
theorem sc__law_outcome : FnScope ["_law_mail", "_law_config_here", "_law_steps", "e"] ["_law_mail", "_law_config_here", "_law_steps"] (defScope s__law_outcome) := ⟨rfl, rfl, rfl, by decide +kernel, rfl, by decide +kernel, by decide +kernel⟩
theorem ok__law_outcome {f : Addr} {fd : FuncData} (D : DefAt K mg "_law_outcome" s__law_outcome ["_law_mail", "_law_config_here", "_law_steps"] f fd) (U : Uses mg) {CNet : Addr} {fi_Net : Addr} {fdi_Net : FuncData} (ONet : IniAt K mg "Net" "Net.__init__" s_Net ["self", "places", "transitions"] CNet fi_Net fdi_Net) (NNet : NANet K CNet) {CMailNet : Addr} {fi_MailNet : Addr} {fdi_MailNet : FuncData} (OMailNet : IniAt K mg "MailNet" "MailNet.__init__" s_MailNet ["self", "net", "channels", "actions"] CMailNet fi_MailNet fdi_MailNet) (NMailNet : NAMailNet K CMailNet) {f_take_mail : Addr} {fd_take_mail : FuncData} (D_take_mail : DefAt K mg "take_mail" s_take_mail ["mail", "config", "steps"] f_take_mail fd_take_mail) (G_take_mail : FnOk P w K mg base (L2.CX P w) 5 f_take_mail fd_take_mail ["mail", "config", "steps"] (spP (XRm mg) (acons (fz (tyMailNet CMailNet CNet)) (acons (fz (tP2 (tTup tInt) (tTup (tTup tInt)))) (acons (fz (tLst (tAlt (tP3 tTxt tInt tInt) (tP2 tTxt tInt)))) anil))) (fz (tP2 (tTup tInt) (tTup (tTup tInt)))) m_take_mail)) {CNotEnabled fNotEnabled : Addr} (X_NotEnabled : ExNo P w K mg base "NotEnabled" CNotEnabled fNotEnabled) : FnOk P w K mg base (L2.CX P w) 6 f fd ["_law_mail", "_law_config_here", "_law_steps"] (spP (XRm mg) (acons (fz (tyMailNet CMailNet CNet)) (acons (fz (tP2 (tTup tInt) (tTup (tTup tInt)))) (acons (fz (tLst (tAlt (tP3 tTxt tInt tInt) (tP2 tTxt tInt)))) anil))) (fz (tAlt (tP2 tTxt (tP2 (tTup tInt) (tTup (tTup tInt)))) (tP2 tTxt tInt))) m__law_outcome) :=
  fn_okK (G1 := fun _ => gnil) D.F sc__law_outcome rfl rfl (fun _ => (st_cons (st_cons (st_cons (st_nil (any_cons any_nil)))))) (fun _ => fall_bad) (fun _ cdv A outer s H E hr =>
    (ss_one (sm_tryStop (i := 3) (inj := (fun n => Sum.inr (([115, 116, 111, 112] : List Nat), n))) rfl rfl sc__law_outcome.nd rfl rfl (.inl rfl) (takes_of rfl rfl rfl rfl) X_NotEnabled rfl (by decide +kernel) rfl (by rfl) (by decide) (fun W pn xe tkT hpT => (ss_one (sm_retP (em_toL (em_tup2 (am_cons (em_txt (x := ([101, 110, 100] : List Nat)) (by decide +kernel) (by decide)) (am_cons (em_call tkT G_take_mail (hr.mono (by decide)) (by rfl) D_take_mail.g D_take_mail.F.kp D_take_mail.b (am_cons (em_var rfl (.inl rfl) At.z) (am_cons (em_var rfl (.inl rfl) (At.s At.z)) (am_cons (em_var rfl (.inl rfl) (At.s (At.s At.z))) am_nil)))) am_nil))))))) (fun n F q h => ⟨rfl, q, _, _, rfl, h, ⟨rfl, by simp⟩, rfl⟩) (by rfl) (by rfl) (by rfl))))
/-! ### _law_drawn_step -/
noncomputable def m__law_drawn_step : (List Int) × (List ((List Int) × (List Int) × (List Int))) × (List Int) × Unit → Res ((((List Nat) × Int × Int) ⊕ ((List Nat) × Int)) × List Int) := kRun (S := (List Int) × (List ((List Int) × (List Int) × (List Int))) × (List Int) × Unit) (S' := Unit) (L := Unit) (kSeq (kIf (kCmp mEq (kCallL m__law_take gZ pZ (kPair (kC (3 : Int)) kU0)) (kC (0 : Int))) (kRetL gZ (kF Sum.inl (kF (fun x => (x.1, x.2.1, x.2.2.1)) (kPair (kC ([108, 111, 115, 101] : List Nat)) (kPair (kB mSub (kCallL m__law_take gZ pZ (kPair (kB mAdd (kF (fun x => (x.length : Int)) (kV (gS (gS gZ)))) (kC (2 : Int))) kU0)) (kC (1 : Int))) (kPair (kB mSub (kCallL m__law_take gZ pZ (kPair (kC (6 : Int)) kU0)) (kC (1 : Int))) kU0)))))) kNx) (kRetL gZ (kF Sum.inr (kF (fun x => (x.1, x.2.1)) (kPair (kC ([102, 105, 114, 101] : List Nat)) (kPair (kB mSub (kCallL m__law_take gZ pZ (kPair (kB mAdd (kF (fun x => (x.length : Int)) (kV (gS gZ))) (kC (2 : Int))) kU0)) (kC (1 : Int))) kU0)))))) (iS (iS (iS (iZ ())))) (fun _ => .bad)
abbrev s__law_drawn_step : Stmt := (topS 40)
theorem sc__law_drawn_step : FnScope ["_law_draws_here", "_law_transitions", "_law_channels"] ["_law_draws_here", "_law_transitions", "_law_channels"] (defScope s__law_drawn_step) := ⟨rfl, rfl, rfl, by decide +kernel, rfl, by decide +kernel, by decide +kernel⟩
theorem ok__law_drawn_step {f : Addr} {fd : FuncData} (D : DefAt K mg "_law_drawn_step" s__law_drawn_step ["_law_draws_here", "_law_transitions", "_law_channels"] f fd) (U : Uses mg) {f__law_take : Addr} {fd__law_take : FuncData} (D__law_take : DefAt K mg "_law_take" s__law_take ["_law_draws_here", "_law_limit"] f__law_take fd__law_take) (G__law_take : FnOk P w K mg base (L2.CX P w) 1 f__law_take fd__law_take ["_law_draws_here", "_law_limit"] (spL (XRm mg) tInt (acons (fz tInt) anil) (fz tInt) m__law_take)) : FnOk P w K mg base (L2.CX P w) 2 f fd ["_law_draws_here", "_law_transitions", "_law_channels"] (spL (XRm mg) tInt (acons (fz (tLst (tP3 (tTup tInt) (tTup tInt) (tTup tInt)))) (acons (fz (tLst tInt)) anil)) (fz (tAlt (tP3 tTxt tInt tInt) (tP2 tTxt tInt))) m__law_drawn_step) :=
  fn_okK (G1 := fun _ => gnil) D.F sc__law_drawn_step rfl rfl (fun ad => (st_cons (st_cons (st_cons (st_nil any_nil))))) (fun ad => fall_bad) (fun ad cdv A outer s H E hr =>
    (ss_cons (sm_if (tm_c (cm_eqS scInt) (nomark _) (em_callL (takes_of rfl rfl rfl rfl) G__law_take (hr.mono (by decide)) (by rfl) D__law_take.g D__law_take.F.kp D__law_take.b rfl (.inl rfl) At.z (am_cons em_int am_nil)) em_int) (ss_one (sm_retL At.z (em_toL (em_tup3 (am_cons (em_txt (x := ([108, 111, 115, 101] : List Nat)) (by decide +kernel) (by decide)) (am_cons (em_subt (em_callL (takes_of rfl rfl rfl rfl) G__law_take (hr.mono (by decide)) (by rfl) D__law_take.g D__law_take.F.kp D__law_take.b rfl (.inl rfl) At.z (am_cons (em_add (em_len (by rfl) U.len (em_var rfl (.inl rfl) (At.s (At.s At.z)))) em_int) am_nil)) em_int) (am_cons (em_subt (em_callL (takes_of rfl rfl rfl rfl) G__law_take (hr.mono (by decide)) (by rfl) D__law_take.g D__law_take.F.kp D__law_take.b rfl (.inl rfl) At.z (am_cons em_int am_nil)) em_int) am_nil))))))) (ss_nilI MvI.refl)) (ss_one (sm_retL At.z (em_toR (em_tup2 (am_cons (em_txt (x := ([102, 105, 114, 101] : List Nat)) (by decide +kernel) (by decide)) (am_cons (em_subt (em_callL (takes_of rfl rfl rfl rfl) G__law_take (hr.mono (by decide)) (by rfl) D__law_take.g D__law_take.F.kp D__law_take.b rfl (.inl rfl) At.z (am_cons (em_add (em_len (by rfl) U.len (em_var rfl (.inl rfl) (At.s At.z))) em_int) am_nil)) em_int) am_nil))))))))
/-! ### law -/
noncomputable def m_law : (List Int) × Unit → Res Bool := kRun (S := (List Int) × (List Int) × Int × (List ((List Int) × (List Int) × (List Int))) × (List Int) × (List ((List (Int × Int)) × (List (Int × Int)))) × RMailNet × ((List Int) × (List (List Int))) × Bool × (List (((List Nat) × Int × Int) ⊕ ((List Nat) × Int))) × (Option ((List Int) × (List (List Int)))) × (((List Nat) × ((List Int) × (List (List Int)))) ⊕ ((List Nat) × Int)) × Int × (List (((List Nat) × Int × Int) ⊕ ((List Nat) × Int))) × (((List Nat) × Int × Int) ⊕ ((List Nat) × Int)) × (Option ((List Int) × (List (List Int)))) × ((List Int) × (List Int) × (List Int)) × Bool × Unit) (S' := Unit) (L := Unit) (kSeq (kSet (kU m__law_draws (kPair (kV gZ) (kPair (kC (200 : Int)) kU0))) (pS pZ)) (kSeq (kSet (kB mAdd (kC (1 : Int)) (kCallL m__law_take (gS gZ) (pS pZ) (kPair (kC (3 : Int)) kU0))) (pS (pS pZ))) (kSeq (kSet (kCallL m__law_net (gS gZ) (pS pZ) (kPair (kV (gS (gS gZ))) (kPair (kC (3 : Int)) (kPair (kC false) kU0)))) (pS (pS (pS pZ)))) (kSeq (kSet (kLc (kRange1 (kB mAdd (kC (1 : Int)) (kCallL m__law_take (gS gZ) (pS pZ) (kPair (kC (2 : Int)) kU0)))) (pS (pS (pS (pS (pS (pS (pS (pS (pS (pS (pS (pS pZ)))))))))))) (kB mAdd (kC (1 : Int)) (kCallL m__law_take (gS gZ) (pS pZ) (kPair (kC (3 : Int)) kU0)))) (pS (pS (pS (pS pZ))))) (kSeq (kSet (kLc (kV (gS (gS (gS gZ)))) (pS (pS (pS (pS (pS (pS (pS (pS (pS (pS (pS (pS (pS (pS (pS (pS pZ)))))))))))))))) (kCallL m__law_action (gS gZ) (pS pZ) (kPair (kV (gS (gS (gS (gS gZ))))) kU0))) (pS (pS (pS (pS (pS pZ)))))) (kSeq (kSet (kMake m_MailNet (kPair (kMake m_Net (kPair (kV (gS (gS gZ))) (kPair (kU (fun x => .ok x) (kV (gS (gS (gS gZ))))) kU0))) (kPair (kU (fun x => .ok x) (kV (gS (gS (gS (gS gZ)))))) (kPair (kV (gS (gS (gS (gS (gS gZ)))))) kU0)))) (pS (pS (pS (pS (pS (pS pZ))))))) (kSeq (kSet (kCallL m__law_config (gS gZ) (pS pZ) (kPair (kV (gS (gS gZ))) (kPair (kV (gS (gS (gS (gS gZ))))) (kPair (kC (3 : Int)) (kPair (kC (4 : Int)) kU0))))) (pS (pS (pS (pS (pS (pS (pS pZ)))))))) (kSeq (kSet (kCmp mEq (kCallL m__law_take (gS gZ) (pS pZ) (kPair (kC (2 : Int)) kU0)) (kC (0 : Int))) (pS (pS (pS (pS (pS (pS (pS (pS pZ))))))))) (kSeq (kSet (kNil (α := (((List Nat) × Int × Int) ⊕ ((List Nat) × Int)))) (pS (pS (pS (pS (pS (pS (pS (pS (pS pZ)))))))))) (kSeq (kSet (kF some (kV (gS (gS (gS (gS (gS (gS (gS gZ))))))))) (pS (pS (pS (pS (pS (pS (pS (pS (pS (pS pZ))))))))))) (kSeq (kSet (kF Sum.inl (kF (fun x => (x.1, x.2.1)) (kPair (kC ([101, 110, 100] : List Nat)) (kPair (kV (gS (gS (gS (gS (gS (gS (gS gZ)))))))) kU0)))) (pS (pS (pS (pS (pS (pS (pS (pS (pS (pS (pS pZ)))))))))))) (kSeq (kFor (kRange1 (kCallL m__law_take (gS gZ) (pS pZ) (kPair (kC (16 : Int)) kU0))) (pS (pS (pS (pS (pS (pS (pS (pS (pS (pS (pS (pS pZ)))))))))))) (kSeq (kSet (kCallL m__law_drawn_step (gS gZ) (pS pZ) (kPair (kV (gS (gS (gS gZ)))) (kPair (kV (gS (gS (gS (gS gZ))))) kU0))) (pS (pS (pS (pS (pS (pS (pS (pS (pS (pS (pS (pS (pS (pS pZ))))))))))))))) (kSeq (kSet (kC (none : (Option ((List Int) × (List (List Int)))))) (pS (pS (pS (pS (pS (pS (pS (pS (pS (pS (pS (pS (pS (pS (pS pZ)))))))))))))))) (kSeq (kIf (kF Option.isSome (kV (gS (gS (gS (gS (gS (gS (gS (gS (gS (gS gZ)))))))))))) (kSeq (kSet (kU m__law_mail_step (kPair (kV (gS (gS (gS gZ)))) (kPair (kV (gS (gS (gS (gS (gS gZ)))))) (kPair (kU mSome (kV (gS (gS (gS (gS (gS (gS (gS (gS (gS (gS gZ)))))))))))) (kPair (kV (gS (gS (gS (gS (gS (gS (gS (gS (gS (gS (gS (gS (gS (gS gZ))))))))))))))) kU0))))) (pS (pS (pS (pS (pS (pS (pS (pS (pS (pS (pS (pS (pS (pS (pS pZ)))))))))))))))) (kSeq (kSet (kU m_can_take (kPair (kV (gS (gS (gS (gS (gS (gS gZ))))))) (kPair (kU mSome (kV (gS (gS (gS (gS (gS (gS (gS (gS (gS (gS gZ)))))))))))) (kPair (kV (gS (gS (gS (gS (gS (gS (gS (gS (gS (gS (gS (gS (gS (gS gZ))))))))))))))) kU0)))) (pS (pS (pS (pS (pS (pS (pS (pS (pS (pS (pS (pS (pS (pS (pS (pS (pS pZ)))))))))))))))))) (kSeq (kIf (kOr (kF (fun x => !x) (kF (fun _ => true) (kV (gS (gS (gS (gS (gS (gS (gS (gS (gS (gS (gS (gS (gS (gS (gS (gS (gS gZ)))))))))))))))))))) (kCmp mNe (kV (gS (gS (gS (gS (gS (gS (gS (gS (gS (gS (gS (gS (gS (gS (gS (gS (gS gZ)))))))))))))))))) (kF Option.isSome (kV (gS (gS (gS (gS (gS (gS (gS (gS (gS (gS (gS (gS (gS (gS (gS gZ))))))))))))))))))) (kRet (kC false)) kNx) kNx))) kNx) (kSeq (kIf (kOr (kF Option.isSome (kV (gS (gS (gS (gS (gS (gS (gS (gS (gS (gS (gS (gS (gS (gS (gS gZ))))))))))))))))) (kOr (kF (fun x => !x) (kV (gS (gS (gS (gS (gS (gS (gS (gS gZ)))))))))) (kCmp mEq (kCallL m__law_take (gS gZ) (pS pZ) (kPair (kC (8 : Int)) kU0)) (kC (0 : Int))))) (kSeq (kApp (gS (gS (gS (gS (gS (gS (gS (gS (gS gZ))))))))) (pS (pS (pS (pS (pS (pS (pS (pS (pS pZ))))))))) (kV (gS (gS (gS (gS (gS (gS (gS (gS (gS (gS (gS (gS (gS (gS gZ)))))))))))))))) (kSeq (kIf (kAnd (kF Option.isSome (kV (gS (gS (gS (gS (gS (gS (gS (gS (gS (gS gZ)))))))))))) (kF Option.isNone (kV (gS (gS (gS (gS (gS (gS (gS (gS (gS (gS (gS (gS (gS (gS (gS gZ)))))))))))))))))) (kSet (kF Sum.inr (kF (fun x => (x.1, x.2.1)) (kPair (kC ([115, 116, 111, 112] : List Nat)) (kPair (kB mSub (kLenO (gS (gS (gS (gS (gS (gS (gS (gS (gS gZ)))))))))) (kC (1 : Int))) kU0)))) (pS (pS (pS (pS (pS (pS (pS (pS (pS (pS (pS pZ)))))))))))) kNx) (kSeq (kIf (kF Option.isSome (kV (gS (gS (gS (gS (gS (gS (gS (gS (gS (gS (gS (gS (gS (gS (gS gZ))))))))))))))))) (kSet (kF Sum.inl (kF (fun x => (x.1, x.2.1)) (kPair (kC ([101, 110, 100] : List Nat)) (kPair (kU mSome (kV (gS (gS (gS (gS (gS (gS (gS (gS (gS (gS (gS (gS (gS (gS (gS gZ))))))))))))))))) kU0)))) (pS (pS (pS (pS (pS (pS (pS (pS (pS (pS (pS pZ)))))))))))) kNx) (kSet (kV (gS (gS (gS (gS (gS (gS (gS (gS (gS (gS (gS (gS (gS (gS (gS gZ)))))))))))))))) (pS (pS (pS (pS (pS (pS (pS (pS (pS (pS pZ)))))))))))))) kNx) kNx))))) (kSeq (kSet (kV (gS (gS (gS (gS (gS (gS (gS (gS (gS gZ)))))))))) (pS (pS (pS (pS (pS (pS (pS (pS (pS (pS (pS (pS (pS pZ)))))))))))))) (kRet (kAnd (kCmp mEq (kU m__law_outcome (kPair (kV (gS (gS (gS (gS (gS (gS gZ))))))) (kPair (kV (gS (gS (gS (gS (gS (gS (gS gZ)))))))) (kPair (kV (gS (gS (gS (gS (gS (gS (gS (gS (gS (gS (gS (gS (gS gZ)))))))))))))) kU0)))) (kV (gS (gS (gS (gS (gS (gS (gS (gS (gS (gS (gS gZ))))))))))))) (kCmp mEq (kV (gS (gS (gS (gS (gS (gS (gS (gS (gS (gS (gS (gS (gS gZ)))))))))))))) (kV (gS (gS (gS (gS (gS (gS (gS (gS (gS gZ)))))))))))))))))))))))))) (iS (iZ ([], 0, [], [], [], dMailNet, ([], []), false, [], none, (.inl ([], ([], []))), 0, [], (.inl ([], 0, 0)), none, ([], [], []), false, ()))) (fun _ => .bad)
noncomputable def l_law_12 : ((List Int) × (List Int) × Int × (List ((List Int) × (List Int) × (List Int))) × (List Int) × (List ((List (Int × Int)) × (List (Int × Int)))) × RMailNet × ((List Int) × (List (List Int))) × Bool × (List (((List Nat) × Int × Int) ⊕ ((List Nat) × Int))) × (Option ((List Int) × (List (List Int)))) × (((List Nat) × ((List Int) × (List (List Int)))) ⊕ ((List Nat) × Int)) × Int × (List (((List Nat) × Int × Int) ⊕ ((List Nat) × Int))) × (((List Nat) × Int × Int) ⊕ ((List Nat) × Int)) × (Option ((List Int) × (List (List Int)))) × ((List Int) × (List Int) × (List Int)) × Bool × Unit) → Out ((List Int) × (List Int) × Int × (List ((List Int) × (List Int) × (List Int))) × (List Int) × (List ((List (Int × Int)) × (List (Int × Int)))) × RMailNet × ((List Int) × (List (List Int))) × Bool × (List (((List Nat) × Int × Int) ⊕ ((List Nat) × Int))) × (Option ((List Int) × (List (List Int)))) × (((List Nat) × ((List Int) × (List (List Int)))) ⊕ ((List Nat) × Int)) × Int × (List (((List Nat) × Int × Int) ⊕ ((List Nat) × Int))) × (((List Nat) × Int × Int) ⊕ ((List Nat) × Int)) × (Option ((List Int) × (List (List Int)))) × ((List Int) × (List Int) × (List Int)) × Bool × Unit) ((List Int) × (List Int) × Int × (List ((List Int) × (List Int) × (List Int))) × (List Int) × (List ((List (Int × Int)) × (List (Int × Int)))) × RMailNet × ((List Int) × (List (List Int))) × Bool × (List (((List Nat) × Int × Int) ⊕ ((List Nat) × Int))) × (Option ((List Int) × (List (List Int)))) × (((List Nat) × ((List Int) × (List (List Int)))) ⊕ ((List Nat) × Int)) × Int × (List (((List Nat) × Int × Int) ⊕ ((List Nat) × Int))) × (((List Nat) × Int × Int) ⊕ ((List Nat) × Int)) × (Option ((List Int) × (List (List Int)))) × ((List Int) × (List Int) × (List Int)) × Bool × Unit) Bool := (kSeq (kSet (kCallL m__law_drawn_step (gS gZ) (pS pZ) (kPair (kV (gS (gS (gS gZ)))) (kPair (kV (gS (gS (gS (gS gZ))))) kU0))) (pS (pS (pS (pS (pS (pS (pS (pS (pS (pS (pS (pS (pS (pS pZ))))))))))))))) (kSeq (kSet (kC (none : (Option ((List Int) × (List (List Int)))))) (pS (pS (pS (pS (pS (pS (pS (pS (pS (pS (pS (pS (pS (pS (pS pZ)))))))))))))))) (kSeq (kIf (kF Option.isSome (kV (gS (gS (gS (gS (gS (gS (gS (gS (gS (gS gZ)))))))))))) (kSeq (kSet (kU m__law_mail_step (kPair (kV (gS (gS (gS gZ)))) (kPair (kV (gS (gS (gS (gS (gS gZ)))))) (kPair (kU mSome (kV (gS (gS (gS (gS (gS (gS (gS (gS (gS (gS gZ)))))))))))) (kPair (kV (gS (gS (gS (gS (gS (gS (gS (gS (gS (gS (gS (gS (gS (gS gZ))))))))))))))) kU0))))) (pS (pS (pS (pS (pS (pS (pS (pS (pS (pS (pS (pS (pS (pS (pS pZ)))))))))))))))) (kSeq (kSet (kU m_can_take (kPair (kV (gS (gS (gS (gS (gS (gS gZ))))))) (kPair (kU mSome (kV (gS (gS (gS (gS (gS (gS (gS (gS (gS (gS gZ)))))))))))) (kPair (kV (gS (gS (gS (gS (gS (gS (gS (gS (gS (gS (gS (gS (gS (gS gZ))))))))))))))) kU0)))) (pS (pS (pS (pS (pS (pS (pS (pS (pS (pS (pS (pS (pS (pS (pS (pS (pS pZ)))))))))))))))))) (kSeq (kIf (kOr (kF (fun x => !x) (kF (fun _ => true) (kV (gS (gS (gS (gS (gS (gS (gS (gS (gS (gS (gS (gS (gS (gS (gS (gS (gS gZ)))))))))))))))))))) (kCmp mNe (kV (gS (gS (gS (gS (gS (gS (gS (gS (gS (gS (gS (gS (gS (gS (gS (gS (gS gZ)))))))))))))))))) (kF Option.isSome (kV (gS (gS (gS (gS (gS (gS (gS (gS (gS (gS (gS (gS (gS (gS (gS gZ))))))))))))))))))) (kRet (kC false)) kNx) kNx))) kNx) (kSeq (kIf (kOr (kF Option.isSome (kV (gS (gS (gS (gS (gS (gS (gS (gS (gS (gS (gS (gS (gS (gS (gS gZ))))))))))))))))) (kOr (kF (fun x => !x) (kV (gS (gS (gS (gS (gS (gS (gS (gS gZ)))))))))) (kCmp mEq (kCallL m__law_take (gS gZ) (pS pZ) (kPair (kC (8 : Int)) kU0)) (kC (0 : Int))))) (kSeq (kApp (gS (gS (gS (gS (gS (gS (gS (gS (gS gZ))))))))) (pS (pS (pS (pS (pS (pS (pS (pS (pS pZ))))))))) (kV (gS (gS (gS (gS (gS (gS (gS (gS (gS (gS (gS (gS (gS (gS gZ)))))))))))))))) (kSeq (kIf (kAnd (kF Option.isSome (kV (gS (gS (gS (gS (gS (gS (gS (gS (gS (gS gZ)))))))))))) (kF Option.isNone (kV (gS (gS (gS (gS (gS (gS (gS (gS (gS (gS (gS (gS (gS (gS (gS gZ)))))))))))))))))) (kSet (kF Sum.inr (kF (fun x => (x.1, x.2.1)) (kPair (kC ([115, 116, 111, 112] : List Nat)) (kPair (kB mSub (kLenO (gS (gS (gS (gS (gS (gS (gS (gS (gS gZ)))))))))) (kC (1 : Int))) kU0)))) (pS (pS (pS (pS (pS (pS (pS (pS (pS (pS (pS pZ)))))))))))) kNx) (kSeq (kIf (kF Option.isSome (kV (gS (gS (gS (gS (gS (gS (gS (gS (gS (gS (gS (gS (gS (gS (gS gZ))))))))))))))))) (kSet (kF Sum.inl (kF (fun x => (x.1, x.2.1)) (kPair (kC ([101, 110, 100] : List Nat)) (kPair (kU mSome (kV (gS (gS (gS (gS (gS (gS (gS (gS (gS (gS (gS (gS (gS (gS (gS gZ))))))))))))))))) kU0)))) (pS (pS (pS (pS (pS (pS (pS (pS (pS (pS (pS pZ)))))))))))) kNx) (kSet (kV (gS (gS (gS (gS (gS (gS (gS (gS (gS (gS (gS (gS (gS (gS (gS gZ)))))))))))))))) (pS (pS (pS (pS (pS (pS (pS (pS (pS (pS pZ)))))))))))))) kNx) kNx))))
theorem n_law : m_law = kRun (S := (List Int) × (List Int) × Int × (List ((List Int) × (List Int) × (List Int))) × (List Int) × (List ((List (Int × Int)) × (List (Int × Int)))) × RMailNet × ((List Int) × (List (List Int))) × Bool × (List (((List Nat) × Int × Int) ⊕ ((List Nat) × Int))) × (Option ((List Int) × (List (List Int)))) × (((List Nat) × ((List Int) × (List (List Int)))) ⊕ ((List Nat) × Int)) × Int × (List (((List Nat) × Int × Int) ⊕ ((List Nat) × Int))) × (((List Nat) × Int × Int) ⊕ ((List Nat) × Int)) × (Option ((List Int) × (List (List Int)))) × ((List Int) × (List Int) × (List Int)) × Bool × Unit) (S' := Unit) (L := Unit) (kSeq (kSet (kU m__law_draws (kPair (kV gZ) (kPair (kC (200 : Int)) kU0))) (pS pZ)) (kSeq (kSet (kB mAdd (kC (1 : Int)) (kCallL m__law_take (gS gZ) (pS pZ) (kPair (kC (3 : Int)) kU0))) (pS (pS pZ))) (kSeq (kSet (kCallL m__law_net (gS gZ) (pS pZ) (kPair (kV (gS (gS gZ))) (kPair (kC (3 : Int)) (kPair (kC false) kU0)))) (pS (pS (pS pZ)))) (kSeq (kSet (kLc (kRange1 (kB mAdd (kC (1 : Int)) (kCallL m__law_take (gS gZ) (pS pZ) (kPair (kC (2 : Int)) kU0)))) (pS (pS (pS (pS (pS (pS (pS (pS (pS (pS (pS (pS pZ)))))))))))) (kB mAdd (kC (1 : Int)) (kCallL m__law_take (gS gZ) (pS pZ) (kPair (kC (3 : Int)) kU0)))) (pS (pS (pS (pS pZ))))) (kSeq (kSet (kLc (kV (gS (gS (gS gZ)))) (pS (pS (pS (pS (pS (pS (pS (pS (pS (pS (pS (pS (pS (pS (pS (pS pZ)))))))))))))))) (kCallL m__law_action (gS gZ) (pS pZ) (kPair (kV (gS (gS (gS (gS gZ))))) kU0))) (pS (pS (pS (pS (pS pZ)))))) (kSeq (kSet (kMake m_MailNet (kPair (kMake m_Net (kPair (kV (gS (gS gZ))) (kPair (kU (fun x => .ok x) (kV (gS (gS (gS gZ))))) kU0))) (kPair (kU (fun x => .ok x) (kV (gS (gS (gS (gS gZ)))))) (kPair (kV (gS (gS (gS (gS (gS gZ)))))) kU0)))) (pS (pS (pS (pS (pS (pS pZ))))))) (kSeq (kSet (kCallL m__law_config (gS gZ) (pS pZ) (kPair (kV (gS (gS gZ))) (kPair (kV (gS (gS (gS (gS gZ))))) (kPair (kC (3 : Int)) (kPair (kC (4 : Int)) kU0))))) (pS (pS (pS (pS (pS (pS (pS pZ)))))))) (kSeq (kSet (kCmp mEq (kCallL m__law_take (gS gZ) (pS pZ) (kPair (kC (2 : Int)) kU0)) (kC (0 : Int))) (pS (pS (pS (pS (pS (pS (pS (pS pZ))))))))) (kSeq (kSet (kNil (α := (((List Nat) × Int × Int) ⊕ ((List Nat) × Int)))) (pS (pS (pS (pS (pS (pS (pS (pS (pS pZ)))))))))) (kSeq (kSet (kF some (kV (gS (gS (gS (gS (gS (gS (gS gZ))))))))) (pS (pS (pS (pS (pS (pS (pS (pS (pS (pS pZ))))))))))) (kSeq (kSet (kF Sum.inl (kF (fun x => (x.1, x.2.1)) (kPair (kC ([101, 110, 100] : List Nat)) (kPair (kV (gS (gS (gS (gS (gS (gS (gS gZ)))))))) kU0)))) (pS (pS (pS (pS (pS (pS (pS (pS (pS (pS (pS pZ)))))))))))) (kSeq (kFor (kRange1 (kCallL m__law_take (gS gZ) (pS pZ) (kPair (kC (16 : Int)) kU0))) (pS (pS (pS (pS (pS (pS (pS (pS (pS (pS (pS (pS pZ)))))))))))) l_law_12) (kSeq (kSet (kV (gS (gS (gS (gS (gS (gS (gS (gS (gS gZ)))))))))) (pS (pS (pS (pS (pS (pS (pS (pS (pS (pS (pS (pS (pS pZ)))))))))))))) (kRet (kAnd (kCmp mEq (kU m__law_outcome (kPair (kV (gS (gS (gS (gS (gS (gS gZ))))))) (kPair (kV (gS (gS (gS (gS (gS (gS (gS gZ)))))))) (kPair (kV (gS (gS (gS (gS (gS (gS (gS (gS (gS (gS (gS (gS (gS gZ)))))))))))))) kU0)))) (kV (gS (gS (gS (gS (gS (gS (gS (gS (gS (gS (gS gZ))))))))))))) (kCmp mEq (kV (gS (gS (gS (gS (gS (gS (gS (gS (gS (gS (gS (gS (gS gZ)))))))))))))) (kV (gS (gS (gS (gS (gS (gS (gS (gS (gS gZ)))))))))))))))))))))))))) (iS (iZ ([], 0, [], [], [], dMailNet, ([], []), false, [], none, (.inl ([], ([], []))), 0, [], (.inl ([], 0, 0)), none, ([], [], []), false, ()))) (fun _ => .bad) := rfl
abbrev s_law : Stmt := (topS 41)
theorem sc_law : FnScope ["_law_script", "_law_draws_here", "_law_places", "_law_transitions", "_law_channels", "_law_actions", "_law_mail", "_law_config_here", "_law_only", "_law_steps", "_law_now", "_law_expected", "_law_k", "_law_passed", "_law_step", "_law_after", "_law_transition_here", "_law_can"] ["_law_script"] (defScope s_law) := ⟨rfl, rfl, rfl, by decide +kernel, rfl, by decide +kernel, by decide +kernel⟩
theorem ok_law {f : Addr} {fd : FuncData} (D : DefAt K mg "law" s_law ["_law_script"] f fd) (U : Uses mg) {CNet : Addr} {fi_Net : Addr} {fdi_Net : FuncData} (ONet : IniAt K mg "Net" "Net.__init__" s_Net ["self", "places", "transitions"] CNet fi_Net fdi_Net) (NNet : NANet K CNet) (I_Net : FnOk P w K mg base (L2.CX P w) 3 fi_Net fdi_Net ["self", "places", "transitions"] (spI (XRm mg) CNet frNet (acons (fz tInt) (acons (fz (tLst (tP3 (tTup tInt) (tTup tInt) (tTup tInt)))) anil)) m_Net)) {CMailNet : Addr} {fi_MailNet : Addr} {fdi_MailNet : FuncData} (OMailNet : IniAt K mg "MailNet" "MailNet.__init__" s_MailNet ["self", "net", "channels", "actions"] CMailNet fi_MailNet fdi_MailNet) (NMailNet : NAMailNet K CMailNet) (I_MailNet : FnOk P w K mg base (L2.CX P w) 2 fi_MailNet fdi_MailNet ["self", "net", "channels", "actions"] (spI (XRm mg) CMailNet (frMailNet CNet) (acons (fz (tyNet CNet)) (acons (fz (tLst tInt)) (acons (fz (tLst (tP2 (tTup (tP2 tInt tInt)) (tTup (tP2 tInt tInt))))) anil))) m_MailNet)) {f__law_action : Addr} {fd__law_action : FuncData} (D__law_action : DefAt K mg "_law_action" s__law_action ["_law_draws_here", "_law_channels"] f__law_action fd__law_action) (G__law_action : FnOk P w K mg base (L2.CX P w) 2 f__law_action fd__law_action ["_law_draws_here", "_law_channels"] (spL (XRm mg) tInt (acons (fz (tLst tInt)) anil) (fz (tP2 (tTup (tP2 tInt tInt)) (tTup (tP2 tInt tInt)))) m__law_action)) {f__law_config : Addr} {fd__law_config : FuncData} (D__law_config : DefAt K mg "_law_config" s__law_config ["_law_draws_here", "_law_places", "_law_channels", "_law_most", "_law_longest"] f__law_config fd__law_config) (G__law_config : FnOk P w K mg base (L2.CX P w) 3 f__law_config fd__law_config ["_law_draws_here", "_law_places", "_law_channels", "_law_most", "_law_longest"] (spL (XRm mg) tInt (acons (fz tInt) (acons (fz (tLst tInt)) (acons (fz tInt) (acons (fz tInt) anil)))) (fz (tP2 (tTup tInt) (tTup (tTup tInt)))) m__law_config)) {f__law_drawn_step : Addr} {fd__law_drawn_step : FuncData} (D__law_drawn_step : DefAt K mg "_law_drawn_step" s__law_drawn_step ["_law_draws_here", "_law_transitions", "_law_channels"] f__law_drawn_step fd__law_drawn_step) (G__law_drawn_step : FnOk P w K mg base (L2.CX P w) 2 f__law_drawn_step fd__law_drawn_step ["_law_draws_here", "_law_transitions", "_law_channels"] (spL (XRm mg) tInt (acons (fz (tLst (tP3 (tTup tInt) (tTup tInt) (tTup tInt)))) (acons (fz (tLst tInt)) anil)) (fz (tAlt (tP3 tTxt tInt tInt) (tP2 tTxt tInt))) m__law_drawn_step)) {f__law_draws : Addr} {fd__law_draws : FuncData} (D__law_draws : DefAt K mg "_law_draws" s__law_draws ["_law_script", "_law_count"] f__law_draws fd__law_draws) (G__law_draws : FnOk P w K mg base (L2.CX P w) 1 f__law_draws fd__law_draws ["_law_script", "_law_count"] (spP (XRm mg) (acons (fz (tScr K tInt)) (acons (fz tInt) anil)) (oL tInt) m__law_draws)) {f__law_mail_step : Addr} {fd__law_mail_step : FuncData} (D__law_mail_step : DefAt K mg "_law_mail_step" s__law_mail_step ["_law_transitions", "_law_actions", "_law_config_here", "_law_step"] f__law_mail_step fd__law_mail_step) (G__law_mail_step : FnOk P w K mg base (L2.CX P w) 3 f__law_mail_step fd__law_mail_step ["_law_transitions", "_law_actions", "_law_config_here", "_law_step"] (spP (XRm mg) (acons (fz (tLst (tP3 (tTup tInt) (tTup tInt) (tTup tInt)))) (acons (fz (tLst (tP2 (tTup (tP2 tInt tInt)) (tTup (tP2 tInt tInt))))) (acons (fz (tP2 (tTup tInt) (tTup (tTup tInt)))) (acons (fz (tAlt (tP3 tTxt tInt tInt) (tP2 tTxt tInt))) anil)))) (fz (tOpt (tP2 (tTup tInt) (tTup (tTup tInt))))) m__law_mail_step)) {f__law_net : Addr} {fd__law_net : FuncData} (D__law_net : DefAt K mg "_law_net" s__law_net ["_law_draws_here", "_law_places", "_law_most", "_law_plain"] f__law_net fd__law_net) (G__law_net : FnOk P w K mg base (L2.CX P w) 3 f__law_net fd__law_net ["_law_draws_here", "_law_places", "_law_most", "_law_plain"] (spL (XRm mg) tInt (acons (fz tInt) (acons (fz tInt) (acons (fz tBool) anil))) (fz (tLst (tP3 (tTup tInt) (tTup tInt) (tTup tInt)))) m__law_net)) {f__law_outcome : Addr} {fd__law_outcome : FuncData} (D__law_outcome : DefAt K mg "_law_outcome" s__law_outcome ["_law_mail", "_law_config_here", "_law_steps"] f__law_outcome fd__law_outcome) (G__law_outcome : FnOk P w K mg base (L2.CX P w) 6 f__law_outcome fd__law_outcome ["_law_mail", "_law_config_here", "_law_steps"] (spP (XRm mg) (acons (fz (tyMailNet CMailNet CNet)) (acons (fz (tP2 (tTup tInt) (tTup (tTup tInt)))) (acons (fz (tLst (tAlt (tP3 tTxt tInt tInt) (tP2 tTxt tInt)))) anil))) (fz (tAlt (tP2 tTxt (tP2 (tTup tInt) (tTup (tTup tInt)))) (tP2 tTxt tInt))) m__law_outcome)) {f__law_take : Addr} {fd__law_take : FuncData} (D__law_take : DefAt K mg "_law_take" s__law_take ["_law_draws_here", "_law_limit"] f__law_take fd__law_take) (G__law_take : FnOk P w K mg base (L2.CX P w) 1 f__law_take fd__law_take ["_law_draws_here", "_law_limit"] (spL (XRm mg) tInt (acons (fz tInt) anil) (fz tInt) m__law_take)) {f_can_take : Addr} {fd_can_take : FuncData} (D_can_take : DefAt K mg "can_take" s_can_take ["mail", "config", "step"] f_can_take fd_can_take) (G_can_take : FnOk P w K mg base (L2.CX P w) 4 f_can_take fd_can_take ["mail", "config", "step"] (spP (XRm mg) (acons (fz (tyMailNet CMailNet CNet)) (acons (fz (tP2 (tTup tInt) (tTup (tTup tInt)))) (acons (fz (tAlt (tP3 tTxt tInt tInt) (tP2 tTxt tInt))) anil))) (fz tBool) m_can_take)) : FnOk P w K mg base (L2.CX P w) 7 f fd ["_law_script"] (spP (XRm mg) (acons (fz (tScr K tInt)) anil) (fz tBool) m_law) :=
  fn_okK (G1 := fun _ => gnil) D.F sc_law rfl rfl (fun _ => (st_cons (st_nil (any_cons (any_cons (any_cons (any_cons (any_cons (any_cons (any_cons (any_cons (any_cons (any_cons (any_cons (any_cons (any_cons (any_cons (any_cons (any_cons (any_cons any_nil)))))))))))))))))))) (fun _ => fall_bad) (fun _ cdv A outer s H E hr =>
    (ss_cons (sm_set sc_law.nd rfl (.inr rfl) (At.s At.z) (em_call (takes_of rfl rfl rfl rfl) G__law_draws (hr.mono (by decide)) (by rfl) D__law_draws.g D__law_draws.F.kp D__law_draws.b (am_cons (em_var rfl (.inl rfl) At.z) (am_cons em_int am_nil))) (hf := .inl rfl)) (ss_cons (sm_set sc_law.nd rfl (.inl rfl) (At.s (At.s At.z)) (em_add em_int (em_callL (takes_of rfl rfl rfl rfl) G__law_take (hr.mono (by decide)) (by rfl) D__law_take.g D__law_take.F.kp D__law_take.b rfl (.inr (.inl rfl)) (At.s At.z) (am_cons em_int am_nil))) (hf := .inl rfl)) (ss_cons (sm_set sc_law.nd rfl (.inl rfl) (At.s (At.s (At.s At.z))) (em_callL (takes_of rfl rfl rfl rfl) G__law_net (hr.mono (by decide)) (by rfl) D__law_net.g D__law_net.F.kp D__law_net.b rfl (.inr (.inl rfl)) (At.s At.z) (am_cons (em_var rfl (.inl rfl) (At.s (At.s At.z))) (am_cons em_int (am_cons em_bool am_nil)))) (hf := .inl rfl)) (ss_cons (sm_set sc_law.nd rfl (.inr rfl) (At.s (At.s (At.s (At.s At.z)))) (em_freeze (em_lcK (own := [("_law_k", 12)]) rfl sc_law.nd (im_range1 (by rfl) U.range (em_add em_int (em_callL (takes_of rfl rfl rfl rfl) G__law_take (hr.mono (by decide)) (by rfl) D__law_take.g D__law_take.F.kp D__law_take.b rfl (.inr (.inl rfl)) (At.s At.z) (am_cons em_int am_nil)))) (blkOk_by (N := ["_law_script", "_law_draws_here", "_law_places", "_law_transitions", "_law_channels", "_law_actions", "_law_mail", "_law_config_here", "_law_only", "_law_steps", "_law_now", "_law_expected", "_law_k", "_law_passed", "_law_step", "_law_after", "_law_transition_here", "_law_can"]) (sc := (defScope s_law)) (by decide +kernel)) (ko_keep (by decide) (ko_keep (by decide) (ko_keep (by decide) (ko_keep (by decide) (ko_any (ko_any (ko_any (ko_any (ko_any (ko_any (ko_any (ko_any (ko_any (ko_any (ko_any (ko_any (ko_any (ko_any ko_nil)))))))))))))))))) (fun _ _ _ _ _ => (tgt_name sc_law.nd rfl (.inl (by rfl)) (At.s (At.s (At.s (At.s (At.s (At.s (At.s (At.s (At.s (At.s (At.s (At.s At.z)))))))))))) (.inr (by rfl)))) (fun _ _ _ _ _ => (em_add em_int (em_callL takes0 G__law_take (hr.mono (by decide)) (by rfl) D__law_take.g D__law_take.F.kp D__law_take.b rfl (by first | exact .inr (.inr rfl) | exact .inr (.inl rfl)) (At.s At.z) (am_cons em_int am_nil)))) (bi_cons (bi_cons (bi_cons (bi_cons (bi_cons (bi_cons (bi_cons (bi_cons (bi_cons (bi_cons (bi_cons (bi_cons (bi_any bi_refl))))))))))))))) (hf := .inl rfl)) (ss_cons (sm_setLcK (own := [("_law_transition_here", 16)]) rfl sc_law.nd rfl rfl (At.s (At.s (At.s (At.s (At.s At.z))))) (sw_true rfl rfl rfl (by decide +kernel)) (im_list (em_var rfl (.inl rfl) (At.s (At.s (At.s At.z))))) (blkOk_by (N := ["_law_script", "_law_draws_here", "_law_places", "_law_transitions", "_law_channels", "_law_actions", "_law_mail", "_law_config_here", "_law_only", "_law_steps", "_law_now", "_law_expected", "_law_k", "_law_passed", "_law_step", "_law_after", "_law_transition_here", "_law_can"]) (sc := (defScope s_law)) (by decide +kernel)) (ko_keep (by decide) (ko_keep (by decide) (ko_keep (by decide) (ko_keep (by decide) (ko_keep (by decide) (ko_any (ko_any (ko_any (ko_any (ko_any (ko_any (ko_any (ko_any (ko_any (ko_any (ko_any (ko_any (ko_any ko_nil)))))))))))))))))) (fun _ _ _ _ _ => (tgt_name sc_law.nd rfl (.inl (by rfl)) (At.s (At.s (At.s (At.s (At.s (At.s (At.s (At.s (At.s (At.s (At.s (At.s (At.s (At.s (At.s (At.s At.z)))))))))))))))) (.inr (by rfl)))) (fun _ _ _ _ _ => (em_callL takes0 G__law_action (hr.mono (by decide)) (by rfl) D__law_action.g D__law_action.F.kp D__law_action.b rfl (by first | exact .inr (.inr rfl) | exact .inr (.inl rfl)) (At.s At.z) (am_cons (em_var rfl (by first | exact .inr (.inr rfl) | exact .inr (.inl rfl)) (At.s (At.s (At.s (At.s At.z))))) am_nil))) (bi_cons (bi_cons (bi_cons (bi_cons (bi_cons (bi_cons (bi_cons (bi_cons (bi_cons (bi_cons (bi_cons (bi_cons (bi_cons (bi_cons (bi_cons (bi_cons (bi_any bi_refl)))))))))))))))))) (ss_cons (sm_set sc_law.nd rfl (.inl rfl) (At.s (At.s (At.s (At.s (At.s (At.s At.z)))))) (em_makeS (takes_of rfl rfl rfl rfl) OMailNet.mkr I_MailNet (hr.mono (by decide)) (by rfl) OMailNet.g OMailNet.b (am_cons (em_makeS (takes_of rfl rfl rfl rfl) ONet.mkr I_Net (hr.mono (by decide)) (by rfl) ONet.g ONet.b (am_cons (em_var rfl (.inl rfl) (At.s (At.s At.z))) (am_cons (em_freeze (em_listL (by rfl) U.list (em_var rfl (.inl rfl) (At.s (At.s (At.s At.z)))))) am_nil))) (am_cons (em_freeze (em_listL (by rfl) U.list (em_var rfl (.inr (.inl rfl)) (At.s (At.s (At.s (At.s At.z))))))) (am_cons (em_freeze (em_listO (by rfl) U.list rfl (.inl rfl) (At.s (At.s (At.s (At.s (At.s At.z))))))) am_nil)))) (hf := .inl rfl)) (ss_cons (sm_set sc_law.nd rfl (.inl rfl) (At.s (At.s (At.s (At.s (At.s (At.s (At.s At.z))))))) (em_callL (takes_of rfl rfl rfl rfl) G__law_config (hr.mono (by decide)) (by rfl) D__law_config.g D__law_config.F.kp D__law_config.b rfl (.inr (.inl rfl)) (At.s At.z) (am_cons (em_var rfl (.inl rfl) (At.s (At.s At.z))) (am_cons (em_var rfl (.inr (.inl rfl)) (At.s (At.s (At.s (At.s At.z))))) (am_cons em_int (am_cons em_int am_nil))))) (hf := .inl rfl)) (ss_cons (sm_set sc_law.nd rfl (.inl rfl) (At.s (At.s (At.s (At.s (At.s (At.s (At.s (At.s At.z)))))))) (em_c (cm_eqS scInt) (nomark _) (em_callL (takes_of rfl rfl rfl rfl) G__law_take (hr.mono (by decide)) (by rfl) D__law_take.g D__law_take.F.kp D__law_take.b rfl (.inr (.inl rfl)) (At.s At.z) (am_cons em_int am_nil)) em_int) (hf := .inl rfl)) (ss_cons (sm_set sc_law.nd rfl (.inl rfl) (At.s (At.s (At.s (At.s (At.s (At.s (At.s (At.s (At.s At.z))))))))) (em_lstN (am_hnil (T := (tAlt (tP3 tTxt tInt tInt) (tP2 tTxt tInt)))) ln_nil (by decide)) (hf := .inl rfl)) (ss_cons (sm_set sc_law.nd rfl (.inl rfl) (At.s (At.s (At.s (At.s (At.s (At.s (At.s (At.s (At.s (At.s At.z)))))))))) (em_some (nnP2) (em_var rfl (.inl rfl) (At.s (At.s (At.s (At.s (At.s (At.s (At.s At.z))))))))) (hf := .inl rfl)) (ss_cons (sm_set sc_law.nd rfl (.inl rfl) (At.s (At.s (At.s (At.s (At.s (At.s (At.s (At.s (At.s (At.s (At.s At.z))))))))))) (em_toL (em_tup2 (am_cons (em_txt (x := ([101, 110, 100] : List Nat)) (by decide +kernel) (by decide)) (am_cons (em_var rfl (.inl rfl) (At.s (At.s (At.s (At.s (At.s (At.s (At.s At.z)))))))) am_nil)))) (hf := .inl rfl)) (ss_cons (sm_forI (passes_of rfl) rfl (im_range1 (by rfl) U.range (em_callL (takes_of rfl rfl rfl rfl) G__law_take (hr.mono (by decide)) (by rfl) D__law_take.g D__law_take.F.kp D__law_take.b rfl (.inr (.inl rfl)) (At.s At.z) (am_cons em_int am_nil))) (MvI.cons SMvI.refl (MvI.cons SMvI.refl (MvI.cons SMvI.refl (MvI.cons SMvI.refl (MvI.cons SMvI.refl (MvI.cons SMvI.freeze MvI.refl)))))) (tgt_name sc_law.nd rfl (.inl rfl) (At.s (At.s (At.s (At.s (At.s (At.s (At.s (At.s (At.s (At.s (At.s (At.s At.z)))))))))))) (.inl rfl)) (ss_cons (sm_set sc_law.nd rfl (.inl rfl) (At.s (At.s (At.s (At.s (At.s (At.s (At.s (At.s (At.s (At.s (At.s (At.s (At.s (At.s At.z)))))))))))))) (em_callL (takes_of rfl rfl rfl rfl) G__law_drawn_step (hr.mono (by decide)) (by rfl) D__law_drawn_step.g D__law_drawn_step.F.kp D__law_drawn_step.b rfl (.inr (.inl rfl)) (At.s At.z) (am_cons (em_var rfl (.inl rfl) (At.s (At.s (At.s At.z)))) (am_cons (em_var rfl (.inr (.inl rfl)) (At.s (At.s (At.s (At.s At.z))))) am_nil))) (hf := .inl rfl)) (ss_cons (sm_set sc_law.nd rfl (.inl rfl) (At.s (At.s (At.s (At.s (At.s (At.s (At.s (At.s (At.s (At.s (At.s (At.s (At.s (At.s (At.s At.z))))))))))))))) (em_none (T := (tP2 (tTup tInt) (tTup (tTup tInt))))) (hf := .inl rfl)) (ss_cons (sm_if (tm_notN (em_var rfl (.inl rfl) (At.s (At.s (At.s (At.s (At.s (At.s (At.s (At.s (At.s (At.s At.z)))))))))))) (ss_cons (sm_set sc_law.nd rfl (.inl rfl) (At.s (At.s (At.s (At.s (At.s (At.s (At.s (At.s (At.s (At.s (At.s (At.s (At.s (At.s (At.s At.z))))))))))))))) (em_call (takes_of rfl rfl rfl rfl) G__law_mail_step (hr.mono (by decide)) (by rfl) D__law_mail_step.g D__law_mail_step.F.kp D__law_mail_step.b (am_cons (em_var rfl (.inl rfl) (At.s (At.s (At.s At.z)))) (am_cons (em_var rfl (.inl rfl) (At.s (At.s (At.s (At.s (At.s At.z)))))) (am_cons (em_getO (em_var rfl (.inl rfl) (At.s (At.s (At.s (At.s (At.s (At.s (At.s (At.s (At.s (At.s At.z)))))))))))) (am_cons (em_var rfl (.inl rfl) (At.s (At.s (At.s (At.s (At.s (At.s (At.s (At.s (At.s (At.s (At.s (At.s (At.s (At.s At.z))))))))))))))) am_nil))))) (hf := .inl rfl)) (ss_cons (sm_set sc_law.nd rfl (.inl rfl) (At.s (At.s (At.s (At.s (At.s (At.s (At.s (At.s (At.s (At.s (At.s (At.s (At.s (At.s (At.s (At.s (At.s At.z))))))))))))))))) (em_call (takes_of rfl rfl rfl rfl) G_can_take (hr.mono (by decide)) (by rfl) D_can_take.g D_can_take.F.kp D_can_take.b (am_cons (em_var rfl (.inl rfl) (At.s (At.s (At.s (At.s (At.s (At.s At.z))))))) (am_cons (em_getO (em_var rfl (.inl rfl) (At.s (At.s (At.s (At.s (At.s (At.s (At.s (At.s (At.s (At.s At.z)))))))))))) (am_cons (em_var rfl (.inl rfl) (At.s (At.s (At.s (At.s (At.s (At.s (At.s (At.s (At.s (At.s (At.s (At.s (At.s (At.s At.z))))))))))))))) am_nil)))) (hf := .inl rfl)) (ss_cons (sm_if (tm_b (bm_or (tm_not (tm_val (em_isC (by rfl) U.isinstance (by rfl) U.bool (by decide +kernel) is_bool (em_var rfl (.inl rfl) (At.s (At.s (At.s (At.s (At.s (At.s (At.s (At.s (At.s (At.s (At.s (At.s (At.s (At.s (At.s (At.s (At.s At.z))))))))))))))))))))) (bm_or1 (tm_c (cm_neS scBool) (nomark _) (em_var rfl (.inl rfl) (At.s (At.s (At.s (At.s (At.s (At.s (At.s (At.s (At.s (At.s (At.s (At.s (At.s (At.s (At.s (At.s (At.s At.z)))))))))))))))))) (em_notN (em_var rfl (.inl rfl) (At.s (At.s (At.s (At.s (At.s (At.s (At.s (At.s (At.s (At.s (At.s (At.s (At.s (At.s (At.s At.z))))))))))))))))))))) (ss_one (sm_retP em_bool)) (ss_nilI MvI.refl)) (ss_nilI (MvI.cons SMvI.refl (MvI.cons SMvI.refl (MvI.cons SMvI.refl (MvI.cons SMvI.refl (MvI.cons SMvI.refl (MvI.cons SMvI.refl (MvI.cons SMvI.refl (MvI.cons SMvI.refl (MvI.cons SMvI.refl (MvI.cons SMvI.refl (MvI.cons SMvI.refl (MvI.cons SMvI.refl (MvI.cons SMvI.refl (MvI.cons SMvI.refl (MvI.cons SMvI.refl (MvI.cons SMvI.refl (MvI.cons SMvI.refl (MvI.cons SMvI.hide MvI.refl)))))))))))))))))))))) (ss_nilI MvI.refl)) (ss_cons (sm_if (tm_b (bm_or (tm_notN (em_var rfl (.inl rfl) (At.s (At.s (At.s (At.s (At.s (At.s (At.s (At.s (At.s (At.s (At.s (At.s (At.s (At.s (At.s At.z))))))))))))))))) (bm_or (tm_not (tm_val (em_var rfl (.inl rfl) (At.s (At.s (At.s (At.s (At.s (At.s (At.s (At.s At.z))))))))))) (bm_or1 (tm_c (cm_eqS scInt) (nomark _) (em_callL (takes_of rfl rfl rfl rfl) G__law_take (hr.mono (by decide)) (by rfl) D__law_take.g D__law_take.F.kp D__law_take.b rfl (.inr (.inl rfl)) (At.s At.z) (am_cons em_int am_nil)) em_int))))) (ss_cons (sm_append rfl (.inl rfl) (At.s (At.s (At.s (At.s (At.s (At.s (At.s (At.s (At.s At.z))))))))) (em_var rfl (.inl rfl) (At.s (At.s (At.s (At.s (At.s (At.s (At.s (At.s (At.s (At.s (At.s (At.s (At.s (At.s At.z))))))))))))))) (fun _ _ h h2 => pe_bm PySem.F.plainAttrs_list PySem.F.slot_list_append PySem.F.type_list_append mt_append h (pa_cons h2 pa_nil))) (ss_cons (sm_if (tm_b (bm_and (tm_notN (em_var rfl (.inl rfl) (At.s (At.s (At.s (At.s (At.s (At.s (At.s (At.s (At.s (At.s At.z)))))))))))) (bm_and1 (tm_isN (em_var rfl (.inl rfl) (At.s (At.s (At.s (At.s (At.s (At.s (At.s (At.s (At.s (At.s (At.s (At.s (At.s (At.s (At.s At.z)))))))))))))))))))) (ss_one (sm_set sc_law.nd rfl (.inl rfl) (At.s (At.s (At.s (At.s (At.s (At.s (At.s (At.s (At.s (At.s (At.s At.z))))))))))) (em_toR (em_tup2 (am_cons (em_txt (x := ([115, 116, 111, 112] : List Nat)) (by decide +kernel) (by decide)) (am_cons (em_subt (em_lenO (by rfl) U.len rfl (.inl rfl) (At.s (At.s (At.s (At.s (At.s (At.s (At.s (At.s (At.s At.z)))))))))) em_int) am_nil)))) (hf := .inl rfl))) (ss_nilI MvI.refl)) (ss_cons (sm_if (tm_notN (em_var rfl (.inl rfl) (At.s (At.s (At.s (At.s (At.s (At.s (At.s (At.s (At.s (At.s (At.s (At.s (At.s (At.s (At.s At.z))))))))))))))))) (ss_one (sm_set sc_law.nd rfl (.inl rfl) (At.s (At.s (At.s (At.s (At.s (At.s (At.s (At.s (At.s (At.s (At.s At.z))))))))))) (em_toL (em_tup2 (am_cons (em_txt (x := ([101, 110, 100] : List Nat)) (by decide +kernel) (by decide)) (am_cons (em_getO (em_var rfl (.inl rfl) (At.s (At.s (At.s (At.s (At.s (At.s (At.s (At.s (At.s (At.s (At.s (At.s (At.s (At.s (At.s At.z))))))))))))))))) am_nil)))) (hf := .inl rfl))) (ss_nilI MvI.refl)) (ss_one (sm_set sc_law.nd rfl (.inl rfl) (At.s (At.s (At.s (At.s (At.s (At.s (At.s (At.s (At.s (At.s At.z)))))))))) (em_var rfl (.inl rfl) (At.s (At.s (At.s (At.s (At.s (At.s (At.s (At.s (At.s (At.s (At.s (At.s (At.s (At.s (At.s At.z)))))))))))))))) (hf := .inl rfl)))))) (ss_nilI MvI.refl)) (ss_nilI (MvI.cons SMvI.refl (MvI.cons SMvI.refl (MvI.cons SMvI.refl (MvI.cons SMvI.refl (MvI.cons SMvI.refl (MvI.cons SMvI.refl (MvI.cons SMvI.refl (MvI.cons SMvI.refl (MvI.cons SMvI.refl (MvI.cons SMvI.refl (MvI.cons SMvI.refl (MvI.cons SMvI.refl (MvI.cons SMvI.hide (MvI.cons SMvI.refl (MvI.cons SMvI.hide (MvI.cons SMvI.hide MvI.refl)))))))))))))))))))))) (ss_cons (sm_set sc_law.nd rfl (.inl rfl) (At.s (At.s (At.s (At.s (At.s (At.s (At.s (At.s (At.s (At.s (At.s (At.s (At.s At.z))))))))))))) (em_freeze (em_listO (by rfl) U.list rfl (.inl rfl) (At.s (At.s (At.s (At.s (At.s (At.s (At.s (At.s (At.s At.z))))))))))) (hf := .inl rfl)) (ss_mvI (MvI.cons SMvI.refl (MvI.cons SMvI.refl (MvI.cons SMvI.refl (MvI.cons SMvI.refl (MvI.cons SMvI.refl (MvI.cons SMvI.refl (MvI.cons SMvI.refl (MvI.cons SMvI.refl (MvI.cons SMvI.refl (MvI.cons SMvI.freeze MvI.refl)))))))))) (ss_one (sm_retP (em_and (em_c (cm_eqD (eqAlt (eqP2 eqTxt (eqP2 (eqTup eqInt) (eqTup (eqTup eqInt)))) (eqP2 eqTxt eqInt) (fun x y => by refine ⟨?_, ?_⟩ <;> simp [eqLst, eqTup, eqInt, eqP2, eqP3, eqTxt, TC.eqBool, eqAlt, eqOpt, PyData.eqv, PyData.eqvAll])) hr.units (by show (max (max 0 (max (0 + 1) ((0 + 1) + 1) + 1) + 1) (max 0 0 + 1)) ≤ 64; decide)) (nomark _) (em_call (takes_of rfl rfl rfl rfl) G__law_outcome (hr.mono (by decide)) (by rfl) D__law_outcome.g D__law_outcome.F.kp D__law_outcome.b (am_cons (em_var rfl (.inl rfl) (At.s (At.s (At.s (At.s (At.s (At.s At.z))))))) (am_cons (em_var rfl (.inl rfl) (At.s (At.s (At.s (At.s (At.s (At.s (At.s At.z)))))))) (am_cons (em_var rfl (.inl rfl) (At.s (At.s (At.s (At.s (At.s (At.s (At.s (At.s (At.s (At.s (At.s (At.s (At.s At.z)))))))))))))) am_nil)))) (em_var rfl (.inl rfl) (At.s (At.s (At.s (At.s (At.s (At.s (At.s (At.s (At.s (At.s (At.s At.z))))))))))))) (em_one (em_c (cm_eqD (eqLst (eqAlt (eqP3 eqTxt eqInt eqInt) (eqP2 eqTxt eqInt) (fun x y => by refine ⟨?_, ?_⟩ <;> simp [eqLst, eqTup, eqInt, eqP2, eqP3, eqTxt, TC.eqBool, eqAlt, eqOpt, PyData.eqv, PyData.eqvAll]))) hr.units (by show ((max (max 0 (max 0 0) + 1) (max 0 0 + 1)) + 1) ≤ 64; decide)) (nomark _) (em_var rfl (.inl rfl) (At.s (At.s (At.s (At.s (At.s (At.s (At.s (At.s (At.s (At.s (At.s (At.s (At.s At.z)))))))))))))) (em_var rfl (.inl rfl) (At.s (At.s (At.s (At.s (At.s (At.s (At.s (At.s (At.s At.z))))))))))))))))))))))))))))))
end
end W
namespace W
open PySem PySem.Spec PyProof.Rows L2 TC
local macro_rules | `(tactic| walk_at "wp") => `(tactic| ((try simp only [w_V, w_C, w_F, w_U, w_B, w_Cmp, w_And, w_Or, w_Ite, w_Chain, w_IxO, w_LenO, w_Nil, w_Cons, w_U0, w_Pair, w_CallL, w_Make, w_Lc, w_LcIf, w_Pop, w_DGet, w_DGetN, w_DIn, w_DNin, w_InO, w_NinO, w_D1, w_Range1, w_Range2, w_Set, w_Expr, w_App, w_Rev, w_Store, w_AddI, w_DPut, w_If, w_For, w_While, w_Nx, w_SeqL, w_Ret, w_RetL, w_FldNew, w_Bk, w_Ct, w_Run, gZ_eq, gS_eq, pZ_eq, pS_eq, pP_eq, pN_eq, pC_eq, c3_eq, c2_eq, iS_eq, iZ_eq, Res.is_ok, is_mAdd, is_mSub, w_AppIx, mEq_eq, mNe_eq, mLt_eq, mLe_eq, mGt_eq, mGe_eq, mIn_eq, mNin_eq, w_Er, w_ErN, w_Try, w_Cut, w_AugIx, w_mSome, w_mInl, w_mInr, mAlt_l, mAlt_r, w_noErRt, Bool.not_true, Bool.not_false, if_true, Bool.false_eq_true, if_false, decide_eq_true_eq, Bool.not_eq_true', decide_eq_false_iff_not, reduceCtorEq, decide_true, decide_false, Option.isSome_none, Option.isSome_some, Option.isNone_none, Option.isNone_some]); (repeat (rw [rest_eq]; (try simp only [w_V, w_C, w_F, w_U, w_B, w_Cmp, w_And, w_Or, w_Ite, w_Chain, w_IxO, w_LenO, w_Nil, w_Cons, w_U0, w_Pair, w_CallL, w_Make, w_Lc, w_LcIf, w_Pop, w_DGet, w_DGetN, w_DIn, w_DNin, w_InO, w_NinO, w_D1, w_Range1, w_Range2, w_Set, w_Expr, w_App, w_Rev, w_Store, w_AddI, w_DPut, w_If, w_For, w_While, w_Nx, w_SeqL, w_Ret, w_RetL, w_FldNew, w_Bk, w_Ct, w_Run, gZ_eq, gS_eq, pZ_eq, pS_eq, pP_eq, pN_eq, pC_eq, c3_eq, c2_eq, iS_eq, iZ_eq, Res.is_ok, is_mAdd, is_mSub, w_AppIx, mEq_eq, mNe_eq, mLt_eq, mLe_eq, mGt_eq, mGe_eq, mIn_eq, mNin_eq, w_Er, w_ErN, w_Try, w_Cut, w_AugIx, w_mSome, w_mInl, w_mInr, mAlt_l, mAlt_r, w_noErRt, Bool.not_true, Bool.not_false, if_true, Bool.false_eq_true, if_false, decide_eq_true_eq, Bool.not_eq_true', decide_eq_false_iff_not, reduceCtorEq, decide_true, decide_false, Option.isSome_none, Option.isSome_some, Option.isNone_none, Option.isNone_some])))))
theorem take_is {ds : List Int} {n : Int} {E : Ex → Prop} {Q : Int × List Int → Prop} (h : 0 < n) (k : ∀ i ds', 0 ≤ i → i < n → Q (i, ds')) : (m__law_take (ds, n, ())).Is E Q := by
  unfold m__law_take
  walk_at "wp"
  split
  · exact k 0 ds (Int.le_refl _) h
  · rename_i hz
    have hne : ds ≠ [] := by
      intro e; subst e; simp at hz
    refine is_mPop (ds.getLast hne) (List.getLast?_eq_some_getLast hne) ?_
    refine is_mMod h ?_
    exact k _ _ (Int.emod_nonneg _ (by omega)) (Int.emod_lt_of_pos _ h)
theorem draws_is {ns : List Int} {n : Int} {E : Ex → Prop} {Q : List Int → Prop} (hn : ns.length ≤ 63) (h0 : 0 ≤ n) (h : n ≤ 1000) (k : ∀ ds : List Int, Q ds) : (m__law_draws (ns, n, ())).Is E Q := by
  rw [n__law_draws]
  walk_at "wp"
  have main : ∀ cells : List Int, 1 ≤ cells.length → cells.length ≤ 63 → ∀ (R : List Int → Prop) (B C : Unit → Prop) (Q2 : _ → Prop), (∀ a b c d e f g h i, Q2 (a, b, c, d, e, f, g, h, i, ())) → (mRange 0 n).Is E fun xs => (forM (fun x l => l__law_draws_6 (pS (pS (pS (pS (pS pZ)))) l x)) xs (ns, n, cells, ([] : List Int), (12345 : Int), (0 : Int), (0 : Int), (0 : Int), (0 : Int), ()) : Out _ Unit (List Int)).Is E R B C Q2 := by
    intro cells h1 h2 R B C Q2 hQ
    refine is_mRange (by omega) ?_
    refine forM_is (fun i l => ∃ cells found mixed k j cell again, l = (ns, n, cells, found, mixed, k, j, cell, again, ()) ∧ 1 ≤ cells.length ∧ cells.length ≤ 63 ∧ found.length = i ∧ 0 ≤ mixed ∧ mixed < 2147483647)
      ⟨cells, [], 12345, 0, 0, 0, 0, rfl, h1, h2, rfl, by omega, by omega⟩ ?_ ?_
    · rintro i x l hx ⟨cells, found, mixed, k', j, cell, again, rfl, c1, c2, c3, m1, m2⟩
      obtain ⟨hx1, hx2⟩ := irange_get hx
      unfold l__law_draws_6
      walk_at "wp"
      refine is_mMod (by omega) ?_
      have jb : 0 ≤ x % (cells.length : Int) := Int.emod_nonneg _ (by omega)
      have jl : x % (cells.length : Int) < cells.length := Int.emod_lt_of_pos _ (by omega)
      have jn : (x % (cells.length : Int)).toNat < cells.length := by omega
      walk_at "wp"
      refine is_mIx cells[(x % (cells.length : Int)).toNat] jb (List.getElem?_eq_getElem jn) ?_
      walk_at "wp"
      refine is_mMul (.inr (by omega)) ?_
      refine is_mMod (by omega) ?_
      refine is_mMul (.inr (by omega)) ?_
      refine is_mMul (.inr (by omega)) ?_
      refine is_mMod (by omega) ?_
      generalize hm : ((mixed * 48271 + cells[(x % (cells.length : Int)).toNat] % 1000003 * 69621 + x * 7919 + 11) % 2147483647 : Int) = mx
      have mx0 : 0 ≤ mx := by rw [← hm]; exact Int.emod_nonneg _ (by omega)
      have mx1 : mx < 2147483647 := by rw [← hm]; exact Int.emod_lt_of_pos _ (by omega)
      walk_at "wp"
      refine is_mMul (.inr (by omega)) ?_
      refine is_mMul (.inl (by omega)) ?_
      refine is_mMod (by omega) ?_
      have pw : ∀ {Q : Int → Prop}, Q ((10 : Int) ^ (18 : Int).toNat) → (mPow 10 18).Is E Q := fun {Q} hq => by
        unfold mPow; rw [if_pos (by decide)]; exact isk hq
      walk_at "wp"
      refine pw ?_
      split
      · refine is_mMod (by omega) ?_
        refine is_mApp (by omega) ?_
        walk_at "wp"
        refine is_mDiv ⟨by decide, by decide⟩ ?_
        refine is_mSet jb jl ?_
        walk_at "wp"
        exact ⟨_, _, mx, x, _, _, _, rfl, by simpa using c1, by simpa using c2, by simp [c3], mx0, mx1⟩
      · refine is_mMod (by omega) ?_
        refine is_mApp (by omega) ?_
        walk_at "wp"
        exact ⟨_, _, mx, x, _, _, _, rfl, c1, c2, by simp [c3], mx0, mx1⟩
    · rintro l ⟨cells, found, mixed, k', j, cell, again, rfl, _⟩
      exact hQ _ _ _ _ _ _ _ _ _
  split
  · walk_at "wp"
    refine main [7] (by simp) (by simp) _ _ _ _ fun a b c d e f g h i => ?_
    walk_at "wp"
    exact k _
  · rename_i hz
    walk_at "wp"
    refine main ns (by
      have : ns.length ≠ 0 := by intro e; simp [e] at hz
      omega) hn _ _ _ _ fun a b c d e f g h i => ?_
    walk_at "wp"
    exact k _

end W
namespace W
open PySem PySem.Spec PyProof.Rows L2 TC
local macro_rules | `(tactic| walk_at "wp") => `(tactic| ((try simp only [w_V, w_C, w_F, w_U, w_B, w_Cmp, w_And, w_Or, w_Ite, w_Chain, w_IxO, w_LenO, w_Nil, w_Cons, w_U0, w_Pair, w_CallL, w_Make, w_Lc, w_LcIf, w_Pop, w_DGet, w_DGetN, w_DIn, w_DNin, w_InO, w_NinO, w_D1, w_Range1, w_Range2, w_Set, w_Expr, w_App, w_Rev, w_Store, w_AddI, w_DPut, w_If, w_For, w_While, w_Nx, w_SeqL, w_Ret, w_RetL, w_FldNew, w_Bk, w_Ct, w_Run, gZ_eq, gS_eq, pZ_eq, pS_eq, pP_eq, pN_eq, pC_eq, c3_eq, c2_eq, iS_eq, iZ_eq, Res.is_ok, is_mAdd, is_mSub, w_AppIx, mEq_eq, mNe_eq, mLt_eq, mLe_eq, mGt_eq, mGe_eq, mIn_eq, mNin_eq, w_Er, w_ErN, w_Try, w_Cut, w_AugIx, w_mSome, w_mInl, w_mInr, mAlt_l, mAlt_r, w_noErRt, Bool.not_true, Bool.not_false, if_true, Bool.false_eq_true, if_false, decide_eq_true_eq, Bool.not_eq_true', decide_eq_false_iff_not, reduceCtorEq, decide_true, decide_false, Option.isSome_none, Option.isSome_some, Option.isNone_none, Option.isNone_some]); (repeat (rw [rest_eq]; (try simp only [w_V, w_C, w_F, w_U, w_B, w_Cmp, w_And, w_Or, w_Ite, w_Chain, w_IxO, w_LenO, w_Nil, w_Cons, w_U0, w_Pair, w_CallL, w_Make, w_Lc, w_LcIf, w_Pop, w_DGet, w_DGetN, w_DIn, w_DNin, w_InO, w_NinO, w_D1, w_Range1, w_Range2, w_Set, w_Expr, w_App, w_Rev, w_Store, w_AddI, w_DPut, w_If, w_For, w_While, w_Nx, w_SeqL, w_Ret, w_RetL, w_FldNew, w_Bk, w_Ct, w_Run, gZ_eq, gS_eq, pZ_eq, pS_eq, pP_eq, pN_eq, pC_eq, c3_eq, c2_eq, iS_eq, iZ_eq, Res.is_ok, is_mAdd, is_mSub, w_AppIx, mEq_eq, mNe_eq, mLt_eq, mLe_eq, mGt_eq, mGe_eq, mIn_eq, mNin_eq, w_Er, w_ErN, w_Try, w_Cut, w_AugIx, w_mSome, w_mInl, w_mInr, mAlt_l, mAlt_r, w_noErRt, Bool.not_true, Bool.not_false, if_true, Bool.false_eq_true, if_false, decide_eq_true_eq, Bool.not_eq_true', decide_eq_false_iff_not, reduceCtorEq, decide_true, decide_false, Option.isSome_none, Option.isSome_some, Option.isNone_none, Option.isNone_some])))))
abbrev Tr := List Int × List Int × List Int
def covB (a b : List Int) : Bool := (irange 0 (a.length : Int)).all fun k => !decide (a.getD k.toNat 0 < b.getD k.toNat 0)
theorem covers_is {a b : List Int} {E : Ex → Prop} {Q : Bool → Prop} (h : a.length ≤ b.length) (hl : a.length ≤ 1000) (k : Q (covB a b)) : (m_covers (a, b, ())).Is E Q := by
  rw [n_covers]
  walk_at "wp"
  refine is_mRange (by omega) ?_
  refine for_all (fun k => !decide (a.getD k.toNat 0 < b.getD k.toNat 0)) (fun l => ∃ z, l = (a, b, z, ())) (fun r => r = false) ⟨0, rfl⟩ ?_ ?_ ?_
  · rintro x l hx ⟨z, rfl⟩
    have hx := irange_mem.mp hx
    unfold l_covers_1
    walk_at "wp"
    refine is_mIxD 0 (by omega) (by omega) ?_
    refine is_mIxD 0 (by omega) (by omega) ?_
    walk_at "wp"
    split
    · rename_i hc
      exact ⟨by rw [decide_eq_true hc]; rfl, trivial⟩
    · rename_i hc
      walk_at "wp"
      exact ⟨by simpa using hc, x, rfl⟩
  · rintro r hr rfl
    have e : covB a b = false := hr
    rw [e] at k; exact k
  · rintro l ⟨z, rfl⟩ hr
    walk_at "wp"
    have e : covB a b = true := hr
    rw [e] at k; exact k
theorem law_covers_eq : m__law_covers = m_covers := rfl
structure WfTr (n : Nat) (t : Tr) : Prop where
  l1 : t.1.length = n
  l2 : t.2.1.length = n
  l3 : t.2.2.length = n
  r1 : ∀ x ∈ t.1, 0 ≤ x ∧ x ≤ 9
  r2 : ∀ x ∈ t.2.1, 0 ≤ x ∧ x ≤ 9
  r3 : ∀ x ∈ t.2.2, -1 ≤ x ∧ x < n
theorem all_from_is {xs : List Int} {lo hi : Int} {E : Ex → Prop} {Q : Bool → Prop} (h : ∀ x ∈ xs, lo ≤ x ∧ x ≤ hi) (k : Q true) : (m_all_from (xs, lo, hi, ())).Is E Q := by
  rw [n_all_from]
  walk_at "wp"
  refine for_keep (fun l => ∃ z, l = (xs, lo, hi, z, ())) ⟨0, rfl⟩ ?_ ?_
  · rintro x l hx ⟨z, rfl⟩
    have := h x hx
    unfold l_all_from_1
    walk_at "wp"
    rw [if_neg (by omega), if_neg (by omega)]
    walk_at "wp"
    exact ⟨x, rfl⟩
  · rintro l ⟨z, rfl⟩
    walk_at "wp"
    exact k
theorem fits_is {n : Nat} {t : Tr} {E : Ex → Prop} {Q : Bool → Prop} (h : WfTr n t) (k : Q true) : (m_fits (t, (n : Int), ())).Is E Q := by
  rw [n_fits]
  obtain ⟨t1, t2, t3⟩ := t
  obtain ⟨h1, h2, h3, h4, h5, h6⟩ := h
  dsimp only at h1 h2 h3 h4 h5 h6
  walk_at "wp"
  refine for_keep (fun l => ∃ z, l = ((t1, t2, t3), (n : Int), z, t1, t2, t3, ())) ⟨[], rfl⟩ ?_ ?_
  · rintro x l hx ⟨z, rfl⟩
    have hx : x.length = n := by
      rcases List.mem_cons.mp hx with e | hx
      · rw [e]; exact h1
      · rcases List.mem_cons.mp hx with e | hx
        · rw [e]; exact h2
        · rw [List.mem_singleton.mp hx]; exact h3
    unfold l_fits_2
    walk_at "wp"
    rw [if_neg (by simp [hx])]
    walk_at "wp"
    exact ⟨x, rfl⟩
  · rintro l ⟨z, rfl⟩
    walk_at "wp"
    refine all_from_is h4 ?_
    walk_at "wp"
    refine all_from_is h5 ?_
    walk_at "wp"
    refine all_from_is (fun x hx => by have := h6 x hx; omega) ?_
    walk_at "wp"
    exact k
theorem Net_is {n : Nat} {ts : List Tr} {E : Ex → Prop} {Q : RNet → Prop} (hn : 1 ≤ n ∧ n ≤ 12) (hl : ts.length ≤ 24) (h : ∀ t ∈ ts, WfTr n t) (k : Q (((), (n : Int)), ts)) : (m_Net ((), (n : Int), ts, ())).Is E Q := by
  rw [n_Net]
  walk_at "wp"
  rw [if_pos (by omega)]
  walk_at "wp"
  rw [if_pos (by omega)]
  rw [decide_eq_true (show (ts.length : Int) ≤ 24 by omega)]
  refine for_keep (fun l => ∃ a b c d, l = ((), (n : Int), ts, true, a, b, c, d, ())) ⟨_, _, _, _, rfl⟩ ?_ ?_
  · rintro x l hx ⟨a, b, c, d, rfl⟩
    unfold l_Net_2
    walk_at "wp"
    refine fits_is (h x hx) ?_
    walk_at "wp"
    exact ⟨_, _, _, _, rfl⟩
  · rintro l ⟨a, b, c, d, rfl⟩
    walk_at "wp"
    refine comp_map id (fun s => ∃ a b c d, s = (((), (n : Int)), (n : Int), ts, true, a, b, c, d, ())) (by omega) ⟨_, _, _, _, rfl⟩ ?_ ?_
    · rintro ⟨x1, x2, x3⟩ s hx ⟨a, b, c, d, rfl⟩
      simp only [Res.is_bind]
      walk_at "wp"
      exact ⟨rfl, _, _, _, _, rfl⟩
    · rintro s ⟨a, b, c, d, rfl⟩
      walk_at "wp"
      rw [List.map_id]
      exact k
def mv (t : Tr) (k : Int) : Int := t.2.2.getD k.toNat 0
def fireS (t : Tr) (m : List Int) (found : List Int) (k : Int) : List Int := if mv t k = -1 then found else found.set (mv t k).toNat (found.getD (mv t k).toNat 0 + (m.getD k.toNat 0 - t.1.getD k.toNat 0))
def fireF (t : Tr) (m : List Int) : List Int := (irange 0 (m.length : Int)).foldl (fireS t m) t.2.1
theorem fireS_len {t : Tr} {m f : List Int} {k : Int} : (fireS t m f k).length = f.length := by unfold fireS; split <;> simp
theorem fold_len {t : Tr} {m : List Int} : ∀ (xs : List Int) (f : List Int), (xs.foldl (fireS t m) f).length = f.length
  | [], _ => rfl
  | x :: xs, f => by rw [List.foldl_cons, fold_len xs, fireS_len]
theorem fireF_len {n : Nat} {t : Tr} {m : List Int} (h : WfTr n t) : (fireF t m).length = n := by unfold fireF; rw [fold_len, h.l2]
theorem mv_range {n : Nat} {t : Tr} {k : Int} (h : WfTr n t) (h0 : 0 ≤ k) (h1 : k < n) : -1 ≤ mv t k ∧ mv t k < n := by
  have hl : k.toNat < t.2.2.length := by rw [h.l3]; omega
  unfold mv
  rw [List.getD_eq_getElem?_getD, List.getElem?_eq_getElem hl]
  exact h.r3 _ (List.getElem_mem hl)
structure NetOk (n : Nat) (ts : List Tr) : Prop where
  n1 : 1 ≤ n
  n2 : n ≤ 12
  l : ts.length ≤ 24
  w : ∀ t ∈ ts, WfTr n t
theorem NetOk.at_ {n : Nat} {ts : List Tr} {i : Int} (h : NetOk n ts) (h0 : 0 ≤ i) (h1 : i < ts.length) : ∃ t, ts[i.toNat]? = some t ∧ WfTr n t := by
  have hl : i.toNat < ts.length := by omega
  exact ⟨_, List.getElem?_eq_getElem hl, h.w _ (List.getElem_mem hl)⟩
theorem enabled_is {n : Nat} {ts : List Tr} {i : Int} {m : List Int} {t : Tr} {E : Ex → Prop} {Q : Bool → Prop} (h : NetOk n ts) (h0 : 0 ≤ i) (hm : m.length = n) (ht : ts[i.toNat]? = some t) (k : Q (covB m t.1)) : (m_enabled ((((), (n : Int)), ts), i, m, ())).Is E Q := by
  have w := h.w t (List.mem_of_getElem? ht)
  have := h.n2
  unfold m_enabled
  walk_at "wp"
  refine is_mIx t h0 ht ?_
  walk_at "wp"
  refine covers_is (by rw [w.l1]; omega) (by omega) ?_
  walk_at "wp"
  exact k
theorem fire_is {n : Nat} {ts : List Tr} {i : Int} {m : List Int} {t : Tr} {E : Ex → Prop} {Q : List Int → Prop} (h : NetOk n ts) (h0 : 0 ≤ i) (hm : m.length = n) (ht : ts[i.toNat]? = some t) (hc : covB m t.1 = true) (k : Q (fireF t m)) : (m_fire ((((), (n : Int)), ts), i, m, ())).Is E Q := by
  have w := h.w t (List.mem_of_getElem? ht)
  have hn := h.n2
  rw [n_fire]
  walk_at "wp"
  refine enabled_is h h0 hm ht ?_
  rw [hc]
  walk_at "wp"
  refine is_mIx t h0 ht ?_
  obtain ⟨t1, t2, t3⟩ := t
  have w1 := w.l1
  have w2 := w.l2
  have w3 := w.l3
  dsimp only at w1 w2 w3
  walk_at "wp"
  refine is_mRange (by omega) ?_
  unfold fireF at k
  rw [hm] at k
  refine for_fold (fireS (t1, t2, t3) m) t2 (fun f l => ∃ z, l = ((((), (n : Int)), ts), i, m, f, z, t1, t2, t3, ())) ⟨0, rfl⟩ ?_ ?_
  · rintro j x l hx ⟨z, rfl⟩
    have hx := irange_mem.mp (List.mem_of_getElem? hx)
    have hmv := mv_range w hx.1 hx.2
    have hfl : ((List.take j (irange 0 (n : Int))).foldl (fireS (t1, t2, t3) m) t2).length = n := by rw [fold_len, w2]
    generalize (List.take j (irange 0 (n : Int))).foldl (fireS (t1, t2, t3) m) t2 = f at *
    unfold l_fire_5
    walk_at "wp"
    refine is_mIxD 0 hx.1 (by omega) ?_
    walk_at "wp"
    have e : t3.getD x.toNat 0 = mv (t1, t2, t3) x := rfl
    rw [e]
    unfold fireS
    by_cases c : mv (t1, t2, t3) x = -1
    · rw [if_pos c]
      simp only [c, not_true, if_false]
      walk_at "wp"
      exact ⟨x, rfl⟩
    · rw [if_neg c]
      simp only [c, not_false_eq_true, if_true]
      walk_at "wp"
      refine is_mIxD 0 hx.1 (by omega) ?_
      rw [e]
      refine is_mIxD 0 (by omega) (by omega) ?_
      refine is_mIxD 0 hx.1 (by omega) ?_
      refine is_mIxD 0 hx.1 (by omega) ?_
      walk_at "wp"
      refine is_mSet (by omega) (by omega) ?_
      exact ⟨x, rfl⟩
  · rintro l ⟨z, rfl⟩
    walk_at "wp"
    exact k

end W
namespace W
open PySem PySem.Spec PyProof.Rows L2 TC
local macro_rules | `(tactic| walk_at "wp") => `(tactic| ((try simp only [w_V, w_C, w_F, w_U, w_B, w_Cmp, w_And, w_Or, w_Ite, w_Chain, w_IxO, w_LenO, w_Nil, w_Cons, w_U0, w_Pair, w_CallL, w_Make, w_Lc, w_LcIf, w_Pop, w_DGet, w_DGetN, w_DIn, w_DNin, w_InO, w_NinO, w_D1, w_Range1, w_Range2, w_Set, w_Expr, w_App, w_Rev, w_Store, w_AddI, w_DPut, w_If, w_For, w_While, w_Nx, w_SeqL, w_Ret, w_RetL, w_FldNew, w_Bk, w_Ct, w_Run, gZ_eq, gS_eq, pZ_eq, pS_eq, pP_eq, pN_eq, pC_eq, c3_eq, c2_eq, iS_eq, iZ_eq, Res.is_ok, is_mAdd, is_mSub, w_AppIx, mEq_eq, mNe_eq, mLt_eq, mLe_eq, mGt_eq, mGe_eq, mIn_eq, mNin_eq, w_Er, w_ErN, w_Try, w_Cut, w_AugIx, w_mSome, w_mInl, w_mInr, mAlt_l, mAlt_r, w_noErRt, Bool.not_true, Bool.not_false, if_true, Bool.false_eq_true, if_false, decide_eq_true_eq, Bool.not_eq_true', decide_eq_false_iff_not, reduceCtorEq, decide_true, decide_false, Option.isSome_none, Option.isSome_some, Option.isNone_none, Option.isNone_some]); (repeat (rw [rest_eq]; (try simp only [w_V, w_C, w_F, w_U, w_B, w_Cmp, w_And, w_Or, w_Ite, w_Chain, w_IxO, w_LenO, w_Nil, w_Cons, w_U0, w_Pair, w_CallL, w_Make, w_Lc, w_LcIf, w_Pop, w_DGet, w_DGetN, w_DIn, w_DNin, w_InO, w_NinO, w_D1, w_Range1, w_Range2, w_Set, w_Expr, w_App, w_Rev, w_Store, w_AddI, w_DPut, w_If, w_For, w_While, w_Nx, w_SeqL, w_Ret, w_RetL, w_FldNew, w_Bk, w_Ct, w_Run, gZ_eq, gS_eq, pZ_eq, pS_eq, pP_eq, pN_eq, pC_eq, c3_eq, c2_eq, iS_eq, iZ_eq, Res.is_ok, is_mAdd, is_mSub, w_AppIx, mEq_eq, mNe_eq, mLt_eq, mLe_eq, mGt_eq, mGe_eq, mIn_eq, mNin_eq, w_Er, w_ErN, w_Try, w_Cut, w_AugIx, w_mSome, w_mInl, w_mInr, mAlt_l, mAlt_r, w_noErRt, Bool.not_true, Bool.not_false, if_true, Bool.false_eq_true, if_false, decide_eq_true_eq, Bool.not_eq_true', decide_eq_false_iff_not, reduceCtorEq, decide_true, decide_false, Option.isSome_none, Option.isSome_some, Option.isNone_none, Option.isNone_some])))))
abbrev Pr := Int × Int
abbrev Act := List Pr × List Pr
abbrev Cfg := List Int × List (List Int)
abbrev Step := (List Nat × Int × Int) ⊕ (List Nat × Int)
abbrev fireW : List Nat := [102, 105, 114, 101]
abbrev loseW : List Nat := [108, 111, 115, 101]
theorem cut_to {α : Type} (w : List α) (i : Int) (h : 0 ≤ i) : mCut w none (some i) = w.take i.toNat := by
  unfold mCut HT.sIx
  dsimp only
  rw [if_neg (by omega), List.drop_zero, Nat.sub_zero, List.take_eq_take_iff]
  omega
theorem cut_from {α : Type} (w : List α) (i : Int) (h : 0 ≤ i) : mCut w (some i) none = w.drop i.toNat := by
  unfold mCut HT.sIx
  dsimp only
  rw [if_neg (by omega)]
  by_cases hl : i.toNat ≤ w.length
  · rw [Nat.min_eq_left hl, List.take_of_length_le (by rw [List.length_drop]; omega)]
  · rw [Nat.min_eq_right (by omega), List.drop_of_length_le (by omega), List.drop_of_length_le (by omega), List.take_nil]
theorem cut_both {α : Type} (w : List α) (i j : Int) (h : 0 ≤ i) (hj : i ≤ j) : mCut w (some i) (some j) = (w.drop i.toNat).take (j.toNat - i.toNat) := by
  unfold mCut HT.sIx
  dsimp only
  rw [if_neg (by omega), if_neg (by omega)]
  by_cases hl : i.toNat ≤ w.length
  · rw [Nat.min_eq_left hl, List.take_eq_take_iff, List.length_drop]
    omega
  · rw [Nat.min_eq_right (by omega), List.drop_of_length_le (by omega), List.drop_of_length_le (by omega), List.take_nil, List.take_nil]
structure WfPs (chs : List Int) (ps : List Pr) : Prop where
  r : ∀ p ∈ ps, 0 ≤ p.1 ∧ p.1 < chs.length ∧ 0 ≤ p.2 ∧ p.2 < chs.getD p.1.toNat 0
  nd : (ps.map (·.1)).Nodup
theorem right_pairs_is {chs : List Int} {ps : List Pr} {E : Ex → Prop} {Q : Bool → Prop} (h : WfPs chs ps) (hl : ps.length ≤ 1000) (k : Q true) : (m_right_pairs (ps, chs, ())).Is E Q := by
  rw [n_right_pairs]
  walk_at "wp"
  refine for_keep (fun l => ∃ a b c, l = (ps, chs, a, b, c, ())) ⟨_, _, _, rfl⟩ ?_ ?_
  · rintro ⟨x, y⟩ l hx ⟨a, b, c, rfl⟩
    have hx := h.r _ hx
    dsimp only at hx
    unfold l_right_pairs_1
    walk_at "wp"
    rw [if_neg (by omega), if_neg (by omega), if_neg (by omega)]
    refine is_mIxD 0 hx.1 hx.2.1 ?_
    rw [if_neg (by omega)]
    walk_at "wp"
    exact ⟨_, _, _, rfl⟩
  · rintro l ⟨a, b, c, rfl⟩
    walk_at "wp"
    refine comp_map (fun p => p.1) (fun s => ∃ a b c, s = (ps, chs, a, b, c, ())) (by omega) ⟨_, _, _, rfl⟩ ?_ ?_
    · rintro ⟨x, y⟩ s hx ⟨a, b, c, rfl⟩
      simp only [Res.is_bind]
      walk_at "wp"
      exact ⟨by first | rfl | trivial, _, _, _, rfl⟩
    · rintro s ⟨a, b, c, rfl⟩
      refine is_mDiff (by rw [List.length_map]; omega) ?_
      walk_at "wp"
      have e := (nDiff_eq (ps.map (fun p => p.1))).mpr h.nd
      rw [e, List.length_map]
      simpa using k
theorem pairs_of_is {ps : List Pr} {E : Ex → Prop} {Q : List Pr → Prop} (hl : ps.length ≤ 1000) (k : Q ps) : (m_pairs_of (ps, ())).Is E Q := by
  unfold m_pairs_of
  walk_at "wp"
  refine comp_map id (fun s => ∃ a b, s = (ps, a, b, ())) (by omega) ⟨_, _, rfl⟩ ?_ ?_
  · rintro ⟨x, y⟩ s hx ⟨a, b, rfl⟩
    simp only [Res.is_bind]
    walk_at "wp"
    exact ⟨rfl, _, _, rfl⟩
  · rintro s ⟨a, b, rfl⟩
    walk_at "wp"
    rw [List.map_id]
    exact k
theorem nodup_small : ∀ (n : Nat) (l : List Int), l.Nodup → (∀ x ∈ l, 0 ≤ x ∧ x < n) → l.length ≤ n
  | 0, [], _, _ => Nat.le_refl _
  | 0, x :: l, _, h => by have := h x List.mem_cons_self; omega
  | n + 1, l, nd, h => by
    by_cases hm : (n : Int) ∈ l
    · have h1 := nodup_small n (l.erase (n : Int)) (nd.erase _) (fun x hx => by
        have hx' := (List.Nodup.mem_erase_iff nd).mp hx
        have := h x hx'.2
        have := hx'.1
        omega)
      rw [List.length_erase_of_mem hm] at h1
      omega
    · have h1 := nodup_small n l nd (fun x hx => by
        have := h x hx
        have : x ≠ n := fun e => hm (e ▸ hx)
        omega)
      omega
structure MailOk (n : Nat) (ts : List Tr) (chs : List Int) (acts : List Act) : Prop where
  net : NetOk n ts
  c : chs.length ≤ 2
  cr : ∀ x ∈ chs, 1 ≤ x ∧ x ≤ 4
  al : acts.length = ts.length
  aw : ∀ a ∈ acts, WfPs chs a.1 ∧ WfPs chs a.2
theorem WfPs.small {chs : List Int} {ps : List Pr} (h : WfPs chs ps) : ps.length ≤ chs.length := by
  have := nodup_small chs.length (ps.map (·.1)) h.nd (fun x hx => by
    obtain ⟨p, hp, rfl⟩ := List.mem_map.mp hx
    have := h.r p hp
    omega)
  rwa [List.length_map] at this
abbrev mailR (n : Nat) (ts : List Tr) (chs : List Int) (acts : List Act) : RMailNet := ((((), (((), (n : Int)), ts)), chs), acts)
theorem MailNet_is {n : Nat} {ts : List Tr} {chs : List Int} {acts : List Act} {E : Ex → Prop} {Q : RMailNet → Prop} (h : MailOk n ts chs acts) (k : Q (mailR n ts chs acts)) : (m_MailNet ((), (((), (n : Int)), ts), chs, acts, ())).Is E Q := by
  have hc := h.c
  have hal := h.al
  have htl := h.net.l
  rw [n_MailNet]
  walk_at "wp"
  rw [if_pos (by omega), decide_eq_true (show (acts.length : Int) = ts.length by omega)]
  refine for_keep (fun l => ∃ a b c, l = ((), (((), (n : Int)), ts), chs, acts, true, a, b, c, ())) ⟨_, _, _, rfl⟩ ?_ ?_
  · rintro x l hx ⟨a, b, c, rfl⟩
    have := h.cr x hx
    unfold l_MailNet_2
    walk_at "wp"
    rw [if_pos (by omega), decide_eq_true (show x ≤ 4 by omega)]
    walk_at "wp"
    exact ⟨_, _, _, rfl⟩
  rintro l ⟨a, b, c, rfl⟩
  walk_at "wp"
  refine for_keep (fun l => ∃ a b c, l = ((), (((), (n : Int)), ts), chs, acts, true, a, b, c, ())) ⟨_, _, _, rfl⟩ ?_ ?_
  · rintro ⟨x, y⟩ l hx ⟨a, b, c, rfl⟩
    have hw := h.aw _ hx
    have s1 := hw.1.small
    have s2 := hw.2.small
    dsimp only at hw s1 s2
    unfold l_MailNet_4
    walk_at "wp"
    refine right_pairs_is hw.1 (by omega) ?_
    walk_at "wp"
    refine right_pairs_is hw.2 (by omega) ?_
    walk_at "wp"
    exact ⟨_, _, _, rfl⟩
  rintro l ⟨a, b, c, rfl⟩
  walk_at "wp"
  refine comp_map id (fun s => ∃ a b c z, s = (z, (((), (n : Int)), ts), chs, acts, true, a, b, c, ()) ∧ z = (((), (((), (n : Int)), ts)), chs)) (by omega) ⟨_, _, _, _, rfl, rfl⟩ ?_ ?_
  · rintro ⟨x, y⟩ s hx ⟨a, b, c, z, rfl, rfl⟩
    have hw := h.aw _ hx
    have s1 := hw.1.small
    have s2 := hw.2.small
    dsimp only at hw s1 s2
    simp only [Res.is_bind]
    walk_at "wp"
    refine pairs_of_is (by omega) ?_
    refine pairs_of_is (by omega) ?_
    exact ⟨rfl, _, _, _, _, rfl, rfl⟩
  · rintro s ⟨a, b, c, z, rfl, rfl⟩
    walk_at "wp"
    rw [List.map_id]
    exact k
def hearOk (words : List (List Int)) (p : Pr) : Bool := decide ((words.getD p.1.toNat []).take 1 = [p.2])
def hearS (w : List (List Int)) (p : Pr) : List (List Int) := w.set p.1.toNat ((w.getD p.1.toNat []).drop 1)
def sendS (w : List (List Int)) (p : Pr) : List (List Int) := w.set p.1.toNat (w.getD p.1.toNat [] ++ [p.2])
def trD : Tr := ([], [], [])
def acD : Act := ([], [])
def canF (ts : List Tr) (acts : List Act) (c : Cfg) (i : Int) : Bool := decide (0 ≤ i ∧ i < ts.length) && (covB c.1 (ts.getD i.toNat trD).1 && (acts.getD i.toNat acD).1.all (hearOk c.2))
def wout (w : List Int) (p : Int) : List Int := w.take p.toNat ++ w.drop (p.toNat + 1)
def canL (c : Cfg) (ch p : Int) : Bool := decide (0 ≤ ch ∧ ch < c.2.length ∧ 0 ≤ p ∧ p < (c.2.getD ch.toNat []).length)
def canT (ts : List Tr) (acts : List Act) (c : Cfg) : Step → Bool
  | .inl (_, ch, p) => canL c ch p
  | .inr (_, i) => canF ts acts c i
def doT (ts : List Tr) (acts : List Act) (c : Cfg) : Step → Cfg
  | .inl (_, ch, p) => (c.1, c.2.set ch.toNat (wout (c.2.getD ch.toNat []) p))
  | .inr (_, i) => (fireF (ts.getD i.toNat trD) c.1, (acts.getD i.toNat acD).2.foldl sendS ((acts.getD i.toNat acD).1.foldl hearS c.2))
structure CfgOk (n nc B : Nat) (c : Cfg) : Prop where
  l1 : c.1.length = n
  l2 : c.2.length = nc
  b : ∀ w ∈ c.2, w.length ≤ B
def StepOk : Step → Prop
  | .inl (w, _, _) => w = loseW
  | .inr (w, _) => w = fireW
section
variable {n : Nat} {ts : List Tr} {chs : List Int} {acts : List Act}
theorem MailOk.at_ (h : MailOk n ts chs acts) {i : Int} (h0 : 0 ≤ i) (h1 : i < ts.length) : ts[i.toNat]? = some (ts.getD i.toNat trD) ∧ acts[i.toNat]? = some (acts.getD i.toNat acD) ∧ WfTr n (ts.getD i.toNat trD) ∧ WfPs chs (acts.getD i.toNat acD).1 ∧ WfPs chs (acts.getD i.toNat acD).2 := by
  have a1 : i.toNat < ts.length := by omega
  have a2 : i.toNat < acts.length := by rw [h.al]; omega
  rw [List.getD_eq_getElem?_getD, List.getElem?_eq_getElem a1, List.getD_eq_getElem?_getD, List.getElem?_eq_getElem a2]
  exact ⟨rfl, rfl, h.net.w _ (List.getElem_mem a1), h.aw _ (List.getElem_mem a2)⟩
theorem can_fire_is {c : Cfg} {i : Int} {B : Nat} {E : Ex → Prop} {Q : Bool → Prop} (h : MailOk n ts chs acts) (hc : CfgOk n chs.length B c) (k : Q (canF ts acts c i)) : (m_can_fire (mailR n ts chs acts, c, i, ())).Is E Q := by
  obtain ⟨m, ws⟩ := c
  rw [n_can_fire]
  walk_at "wp"
  have hal := h.al
  have hm : m.length = n := hc.l1
  have hw : ws.length = chs.length := hc.l2
  unfold canF at k
  by_cases hi : 0 ≤ i ∧ i < ts.length
  · rw [decide_eq_true hi, Bool.true_and] at k
    obtain ⟨q1, q2, q3, q4, q5⟩ := h.at_ hi.1 hi.2
    dsimp only at k
    rw [if_neg (by omega), if_neg (by omega)]
    refine enabled_is h.net hi.1 hm q1 ?_
    cases hcv : covB m (ts.getD i.toNat trD).1 with
    | false =>
      rw [hcv, Bool.false_and] at k
      walk_at "wp"
      exact k
    | true =>
      rw [hcv, Bool.true_and] at k
      walk_at "wp"
      refine is_mIx _ hi.1 q2 ?_
      refine for_all (hearOk ws) (fun l => ∃ a b, l = (mailR n ts chs acts, (m, ws), i, m, ws, a, b, ())) (fun r => r = false) ⟨_, _, rfl⟩ ?_ ?_ ?_
      · rintro ⟨x, y⟩ l hx ⟨a, b, rfl⟩
        have hx := q4.r _ hx
        dsimp only at hx
        unfold l_can_fire_4
        walk_at "wp"
        refine is_mIxD [] hx.1 (by omega) ?_
        rw [cut_to _ _ (by decide), show (1 : Int).toNat = 1 from rfl]
        unfold hearOk
        by_cases hh : (ws.getD x.toNat []).take 1 = [y]
        · rw [if_neg (by simpa using hh)]
          walk_at "wp"
          exact ⟨by simpa using hh, _, _, rfl⟩
        · rw [if_pos hh]
          exact ⟨by simpa using hh, by first | rfl | trivial⟩
      · rintro r hr rfl
        rw [hr] at k; exact k
      · rintro l ⟨a, b, rfl⟩ hr
        walk_at "wp"
        rw [hr] at k; exact k
  · rw [decide_eq_false hi, Bool.false_and] at k
    by_cases h1 : i < 0
    · rw [if_pos h1]; exact k
    · rw [if_neg h1, if_pos (by omega)]; exact k
theorem can_take_is {c : Cfg} {st : Step} {B : Nat} {E : Ex → Prop} {Q : Bool → Prop} (h : MailOk n ts chs acts) (hc : CfgOk n chs.length B c) (hs : StepOk st) (k : Q (canT ts acts c st)) : (m_can_take (mailR n ts chs acts, c, st, ())).Is E Q := by
  unfold m_can_take
  rcases st with ⟨w, ch, p⟩ | ⟨w, i⟩
  · have hs : w = loseW := hs
    subst hs
    walk_at "wp"
    obtain ⟨m, ws⟩ := c
    have hw : ws.length = chs.length := hc.l2
    unfold canT canL at k
    dsimp only at k
    rw [if_neg (by decide)]
    walk_at "wp"
    by_cases h1 : ch < 0
    · rw [if_pos h1]
      rw [decide_eq_false (by omega)] at k
      exact k
    · rw [if_neg h1]
      by_cases h2 : (chs.length : Int) ≤ ch
      · rw [if_pos h2]
        rw [decide_eq_false (by omega)] at k
        exact k
      · rw [if_neg h2]
        walk_at "wp"
        by_cases h3 : 0 ≤ p
        · rw [if_pos h3]
          refine is_mIxD [] (by omega) (by omega) ?_
          have e : decide (p < ((ws.getD ch.toNat []).length : Int)) = decide (0 ≤ ch ∧ ch < (ws.length : Int) ∧ 0 ≤ p ∧ p < ((ws.getD ch.toNat []).length : Int)) := by
            rw [decide_eq_decide]; omega
          rw [e]; exact k
        · rw [if_neg h3]
          rw [decide_eq_false (by omega)] at k
          exact k
  · have hs : w = fireW := hs
    subst hs
    walk_at "wp"
    refine can_fire_is h hc ?_
    exact k
end

end W
namespace W
open PySem PySem.Spec PyProof.Rows L2 TC
local macro_rules | `(tactic| walk_at "wp") => `(tactic| ((try simp only [w_V, w_C, w_F, w_U, w_B, w_Cmp, w_And, w_Or, w_Ite, w_Chain, w_IxO, w_LenO, w_Nil, w_Cons, w_U0, w_Pair, w_CallL, w_Make, w_Lc, w_LcIf, w_Pop, w_DGet, w_DGetN, w_DIn, w_DNin, w_InO, w_NinO, w_D1, w_Range1, w_Range2, w_Set, w_Expr, w_App, w_Rev, w_Store, w_AddI, w_DPut, w_If, w_For, w_While, w_Nx, w_SeqL, w_Ret, w_RetL, w_FldNew, w_Bk, w_Ct, w_Run, gZ_eq, gS_eq, pZ_eq, pS_eq, pP_eq, pN_eq, pC_eq, c3_eq, c2_eq, iS_eq, iZ_eq, Res.is_ok, is_mAdd, is_mSub, w_AppIx, mEq_eq, mNe_eq, mLt_eq, mLe_eq, mGt_eq, mGe_eq, mIn_eq, mNin_eq, w_Er, w_ErN, w_Try, w_Cut, w_AugIx, w_mSome, w_mInl, w_mInr, mAlt_l, mAlt_r, w_noErRt, Bool.not_true, Bool.not_false, if_true, Bool.false_eq_true, if_false, decide_eq_true_eq, Bool.not_eq_true', decide_eq_false_iff_not, reduceCtorEq, decide_true, decide_false, Option.isSome_none, Option.isSome_some, Option.isNone_none, Option.isNone_some]); (repeat (rw [rest_eq]; (try simp only [w_V, w_C, w_F, w_U, w_B, w_Cmp, w_And, w_Or, w_Ite, w_Chain, w_IxO, w_LenO, w_Nil, w_Cons, w_U0, w_Pair, w_CallL, w_Make, w_Lc, w_LcIf, w_Pop, w_DGet, w_DGetN, w_DIn, w_DNin, w_InO, w_NinO, w_D1, w_Range1, w_Range2, w_Set, w_Expr, w_App, w_Rev, w_Store, w_AddI, w_DPut, w_If, w_For, w_While, w_Nx, w_SeqL, w_Ret, w_RetL, w_FldNew, w_Bk, w_Ct, w_Run, gZ_eq, gS_eq, pZ_eq, pS_eq, pP_eq, pN_eq, pC_eq, c3_eq, c2_eq, iS_eq, iZ_eq, Res.is_ok, is_mAdd, is_mSub, w_AppIx, mEq_eq, mNe_eq, mLt_eq, mLe_eq, mGt_eq, mGe_eq, mIn_eq, mNin_eq, w_Er, w_ErN, w_Try, w_Cut, w_AugIx, w_mSome, w_mInl, w_mInr, mAlt_l, mAlt_r, w_noErRt, Bool.not_true, Bool.not_false, if_true, Bool.false_eq_true, if_false, decide_eq_true_eq, Bool.not_eq_true', decide_eq_false_iff_not, reduceCtorEq, decide_true, decide_false, Option.isSome_none, Option.isSome_some, Option.isNone_none, Option.isNone_some])))))
structure WsOk (nc B : Nat) (ws : List (List Int)) : Prop where
  l : ws.length = nc
  b : ∀ w ∈ ws, w.length ≤ B
theorem getD_le {ws : List (List Int)} {B i : Nat} (h : ∀ w ∈ ws, w.length ≤ B) : (ws.getD i []).length ≤ B := by
  rw [List.getD_eq_getElem?_getD]
  cases q : ws[i]? with
  | none => simp
  | some w => exact h w (List.mem_of_getElem? q)
theorem WsOk.set {nc B : Nat} {ws : List (List Int)} {w : List Int} {i : Nat} (h : WsOk nc B ws) (hw : w.length ≤ B) : WsOk nc B (ws.set i w) :=
  ⟨by rw [List.length_set]; exact h.l, fun x hx => by
    rcases List.mem_or_eq_of_mem_set hx with q | q
    · exact h.b x q
    · rw [q]; exact hw⟩
theorem WsOk.mono {nc B B' : Nat} {ws : List (List Int)} (h : WsOk nc B ws) (hb : B ≤ B') : WsOk nc B' ws := ⟨h.l, fun w hw => Nat.le_trans (h.b w hw) hb⟩
theorem WsOk.hear {nc B : Nat} {ws : List (List Int)} {p : Pr} (h : WsOk nc B ws) : WsOk nc B (hearS ws p) := h.set (by
  have := getD_le (i := p.1.toNat) h.b
  rw [List.length_drop]; omega)
theorem WsOk.hears {nc B : Nat} : ∀ (ps : List Pr) {ws : List (List Int)}, WsOk nc B ws → WsOk nc B (ps.foldl hearS ws)
  | [], _, h => h
  | _ :: ps, _, h => WsOk.hears ps h.hear
theorem WsOk.send {nc B : Nat} {ws : List (List Int)} {p : Pr} (h : WsOk nc B ws) : WsOk nc (B + 1) (sendS ws p) := (h.mono (Nat.le_succ B)).set (by
  have := getD_le (i := p.1.toNat) h.b
  rw [List.length_append, List.length_singleton]; omega)
theorem WsOk.sends {nc : Nat} : ∀ (ps : List Pr) {B : Nat} {ws : List (List Int)}, WsOk nc B ws → WsOk nc (B + ps.length) (ps.foldl sendS ws)
  | [], _, _, h => h
  | p :: ps, B, _, h => by
    have := WsOk.sends ps (h.send (p := p))
    rw [List.foldl_cons, List.length_cons]
    exact this.mono (by omega)
section
variable {n : Nat} {ts : List Tr} {chs : List Int} {acts : List Act}
theorem CfgOk.ws {nc B : Nat} {c : Cfg} (h : CfgOk n nc B c) : WsOk nc B c.2 := ⟨h.l2, h.b⟩
theorem do_ok {c : Cfg} {st : Step} {B : Nat} (h : MailOk n ts chs acts) (hc : CfgOk n chs.length B c) (hcan : canT ts acts c st = true) : CfgOk n chs.length (B + 2) (doT ts acts c st) := by
  rcases st with ⟨w, ch, p⟩ | ⟨w, i⟩
  · have z : WsOk chs.length B (c.2.set ch.toNat (wout (c.2.getD ch.toNat []) p)) := hc.ws.set (by
      have := getD_le (i := ch.toNat) hc.b
      unfold wout
      rw [List.length_append, List.length_take, List.length_drop]; omega)
    exact ⟨hc.l1, (z.mono (Nat.le_add_right B 2)).l, (z.mono (Nat.le_add_right B 2)).b⟩
  · unfold canT canF at hcan
    simp only [Bool.and_eq_true, decide_eq_true_eq] at hcan
    obtain ⟨q1, q2, q3, q4, q5⟩ := h.at_ hcan.1.1 hcan.1.2
    have s2 := q5.small
    have hcl := h.c
    have z := WsOk.sends (acts.getD i.toNat acD).2 (WsOk.hears (acts.getD i.toNat acD).1 hc.ws)
    have z2 := z.mono (show B + (acts.getD i.toNat acD).2.length ≤ B + 2 by omega)
    refine ⟨?_, z2.l, z2.b⟩
    show (fireF _ c.1).length = n
    exact fireF_len q3
theorem fire_mail_is {c : Cfg} {i : Int} {w : List Nat} {B : Nat} {E : Ex → Prop} {Q : Cfg → Prop} (h : MailOk n ts chs acts) (hc : CfgOk n chs.length B c) (hB : B ≤ 1000) (hcan : canF ts acts c i = true) (k : Q (doT ts acts c (.inr (w, i)))) : (m_fire_mail (mailR n ts chs acts, c, i, ())).Is E Q := by
  obtain ⟨m, ws⟩ := c
  have hws : WsOk chs.length B ws := hc.ws
  have hcl := h.c
  unfold canF at hcan
  simp only [Bool.and_eq_true, decide_eq_true_eq] at hcan
  obtain ⟨q1, q2, q3, q4, q5⟩ := h.at_ hcan.1.1 hcan.1.2
  unfold doT at k
  dsimp only at k
  generalize hA : acts.getD i.toNat acD = A at *
  obtain ⟨hs, ss⟩ := A
  dsimp only at q4 q5 k
  have s2 := q5.small
  rw [n_fire_mail]
  walk_at "wp"
  refine is_mIx _ hcan.1.1 q2 ?_
  walk_at "wp"
  refine for_fold hearS ws (fun f l => ∃ a b d, l = (mailR n ts chs acts, (m, ws), i, f, m, ws, hs, ss, a, b, d, ())) ⟨_, _, _, rfl⟩ ?_ ?_
  · rintro j ⟨x, y⟩ l hx ⟨a, b, d, rfl⟩
    have hp := q4.r _ (List.mem_of_getElem? hx)
    dsimp only at hp
    have z := WsOk.hears (hs.take j) hws
    unfold l_fire_mail_4
    walk_at "wp"
    have hzl := z.l
    refine is_mIxD [] hp.1 (by omega) ?_
    walk_at "wp"
    refine is_mSet hp.1 (by omega) ?_
    walk_at "wp"
    rw [cut_from _ _ (by decide)]
    exact ⟨_, _, _, rfl⟩
  rintro l ⟨a, b, d, rfl⟩
  walk_at "wp"
  have z0 := WsOk.hears hs hws
  generalize hs.foldl hearS ws = ws1 at *
  refine for_fold sendS ws1 (fun f l => ∃ a b d, l = (mailR n ts chs acts, (m, ws), i, f, m, ws, hs, ss, a, b, d, ())) ⟨_, _, _, rfl⟩ ?_ ?_
  · rintro j ⟨x, y⟩ l hx ⟨a, b, d, rfl⟩
    have hp := q5.r _ (List.mem_of_getElem? hx)
    dsimp only at hp
    have z := WsOk.sends (ss.take j) z0
    have hj : (ss.take j).length ≤ 2 := by rw [List.length_take]; omega
    have hzb := getD_le (i := x.toNat) z.b
    unfold l_fire_mail_6
    walk_at "wp"
    have hzl := z.l
    refine is_mIxD [] hp.1 (by omega) ?_
    refine is_mCat (by rw [List.length_singleton]; omega) ?_
    walk_at "wp"
    refine is_mSet hp.1 (by omega) ?_
    walk_at "wp"
    exact ⟨_, _, _, rfl⟩
  rintro l ⟨a, b, d, rfl⟩
  walk_at "wp"
  refine fire_is h.net hcan.1.1 hc.l1 q1 hcan.2.1 ?_
  walk_at "wp"
  exact k
theorem without_is {w : List Int} {p : Int} {E : Ex → Prop} {Q : List Int → Prop} (h0 : 0 ≤ p) (hl : w.length ≤ 1000) (k : Q (wout w p)) : (m_without (w, p, ())).Is E Q := by
  unfold m_without
  walk_at "wp"
  rw [cut_to _ _ h0, cut_from _ _ (by omega)]
  refine is_mCat (by rw [List.length_take, List.length_drop]; omega) ?_
  walk_at "wp"
  unfold wout at k
  rw [show (p + 1).toNat = p.toNat + 1 by omega]
  exact k
def stepO (ts : List Tr) (acts : List Act) (o : Option Cfg) (s : Step) : Option Cfg := o.bind fun c => if canT ts acts c s = true then some (doT ts acts c s) else none
def runF (ts : List Tr) (acts : List Act) (c : Cfg) (steps : List Step) : Option Cfg := steps.foldl (stepO ts acts) (some c)
theorem run_none : ∀ (steps : List Step), steps.foldl (stepO ts acts) none = none
  | [] => rfl
  | _ :: steps => run_none steps
theorem run_take {c : Cfg} {steps : List Step} {i : Nat} {s : Step} (h : steps[i]? = some s) : runF ts acts c (steps.take (i + 1)) = stepO ts acts (runF ts acts c (steps.take i)) s := by
  unfold runF
  rw [List.take_add_one, h, List.foldl_append]
  rfl
theorem run_fails {c c' : Cfg} {steps : List Step} {i : Nat} {s : Step} (h : steps[i]? = some s) (hr : runF ts acts c (steps.take i) = some c') (hf : canT ts acts c' s = false) : ∀ j, i < j → runF ts acts c (steps.take j) = none := by
  have h1 : runF ts acts c (steps.take (i + 1)) = none := by
    rw [run_take h, hr]
    show (if canT ts acts c' s = true then some (doT ts acts c' s) else none) = none
    rw [hf]; rfl
  intro j hj
  obtain ⟨d, rfl⟩ : ∃ d, j = (i + 1) + d := ⟨j - (i + 1), by omega⟩
  unfold runF at h1 ⊢
  rw [List.take_add, List.foldl_append, h1]
  exact run_none _
theorem take_mail_is {c : Cfg} {steps : List Step} {B : Nat} {E : Ex → Prop} {Q : Cfg → Prop} (h : MailOk n ts chs acts) (hc : CfgOk n chs.length B c) (hs : ∀ s ∈ steps, StepOk s) (hl : steps.length ≤ 100) (hB : B ≤ 100)
    (k : ∀ c', runF ts acts c steps = some c' → Q c') (ke : ∀ (i : Nat) s c', steps[i]? = some s → runF ts acts c (steps.take i) = some c' → canT ts acts c' s = false → E ⟨"NotEnabled", some (i : Int)⟩) : (m_take_mail (mailR n ts chs acts, c, steps, ())).Is E Q := by
  rw [n_take_mail]
  walk_at "wp"
  refine is_mRange (by omega) ?_
  refine forM_is (fun i l => ∃ c' a b d e f, l = (mailR n ts chs acts, c', steps, a, b, d, e, f, ()) ∧ CfgOk n chs.length (B + 2 * i) c' ∧ runF ts acts c (steps.take i) = some c') ⟨_, _, _, _, _, _, rfl, hc, rfl⟩ ?_ ?_
  · rintro i x l hx ⟨c', a, b, d, e, f, rfl, hc', hr⟩
    obtain ⟨rfl, hx2⟩ := irange_get hx
    have hi : i < steps.length := by omega
    have hst : steps[i]? = some steps[i] := List.getElem?_eq_getElem hi
    have hso := hs _ (List.getElem_mem hi)
    generalize hS : steps[i] = st at *
    have e0 : ((0 : Int) + (i : Int)).toNat = i := by omega
    have hnext := run_take (ts := ts) (acts := acts) (c := c) hst
    rw [hr] at hnext
    unfold l_take_mail_1
    walk_at "wp"
    refine is_mIx st (by omega) (by rw [e0]; exact hst) ?_
    refine can_take_is h hc' hso ?_
    walk_at "wp"
    cases hcan : canT ts acts c' st with
    | false =>
      walk_at "wp"
      rw [show (0 : Int) + (i : Int) = i by omega]
      exact ke i st c' hst hr hcan
    | true =>
      walk_at "wp"
      have hnext : runF ts acts c (steps.take (i + 1)) = some (doT ts acts c' st) := by
        rw [hnext]
        show (if canT ts acts c' st = true then some (doT ts acts c' st) else none) = _
        rw [hcan]; rfl
      have hok := do_ok h hc' hcan
      refine is_mIx st (by omega) (by rw [e0]; exact hst) ?_
      rcases st with ⟨w, ch, p⟩ | ⟨w, j⟩
      · have hw : w = loseW := hso
        subst hw
        walk_at "wp"
        rw [if_neg (by decide)]
        walk_at "wp"
        refine is_mIx _ (by omega) (by rw [e0]; exact hst) ?_
        walk_at "wp"
        obtain ⟨m, ws⟩ := c'
        unfold canT canL at hcan
        simp only [decide_eq_true_eq] at hcan
        have hb := getD_le (i := ch.toNat) hc'.b
        dsimp only at hb ⊢
        refine is_mIxD [] (by omega) (by omega) ?_
        refine without_is (by omega) (by omega) ?_
        refine is_mSet (by omega) (by omega) ?_
        walk_at "wp"
        exact ⟨_, _, _, _, _, _, rfl, hok, hnext⟩
      · have hw : w = fireW := hso
        subst hw
        walk_at "wp"
        refine is_mIx _ (by omega) (by rw [e0]; exact hst) ?_
        walk_at "wp"
        refine fire_mail_is (w := fireW) h hc' (by omega) hcan ?_
        walk_at "wp"
        exact ⟨_, _, _, _, _, _, rfl, hok, hnext⟩
  · rintro l ⟨c', a, b, d, e, f, rfl, hc', hr⟩
    walk_at "wp"
    have e0 : (irange 0 (steps.length : Int)).length = steps.length := len_irange
    rw [e0, List.take_length] at hr
    exact k c' hr
end

end W
namespace W
open PySem PySem.Spec PyProof.Rows L2 TC
local macro_rules | `(tactic| walk_at "wp") => `(tactic| ((try simp only [w_V, w_C, w_F, w_U, w_B, w_Cmp, w_And, w_Or, w_Ite, w_Chain, w_IxO, w_LenO, w_Nil, w_Cons, w_U0, w_Pair, w_CallL, w_Make, w_Lc, w_LcIf, w_Pop, w_DGet, w_DGetN, w_DIn, w_DNin, w_InO, w_NinO, w_D1, w_Range1, w_Range2, w_Set, w_Expr, w_App, w_Rev, w_Store, w_AddI, w_DPut, w_If, w_For, w_While, w_Nx, w_SeqL, w_Ret, w_RetL, w_FldNew, w_Bk, w_Ct, w_Run, gZ_eq, gS_eq, pZ_eq, pS_eq, pP_eq, pN_eq, pC_eq, c3_eq, c2_eq, iS_eq, iZ_eq, Res.is_ok, is_mAdd, is_mSub, w_AppIx, mEq_eq, mNe_eq, mLt_eq, mLe_eq, mGt_eq, mGe_eq, mIn_eq, mNin_eq, w_Er, w_ErN, w_Try, w_Cut, w_AugIx, w_mSome, w_mInl, w_mInr, mAlt_l, mAlt_r, w_noErRt, Bool.not_true, Bool.not_false, if_true, Bool.false_eq_true, if_false, decide_eq_true_eq, Bool.not_eq_true', decide_eq_false_iff_not, reduceCtorEq, decide_true, decide_false, Option.isSome_none, Option.isSome_some, Option.isNone_none, Option.isNone_some]); (repeat (rw [rest_eq]; (try simp only [w_V, w_C, w_F, w_U, w_B, w_Cmp, w_And, w_Or, w_Ite, w_Chain, w_IxO, w_LenO, w_Nil, w_Cons, w_U0, w_Pair, w_CallL, w_Make, w_Lc, w_LcIf, w_Pop, w_DGet, w_DGetN, w_DIn, w_DNin, w_InO, w_NinO, w_D1, w_Range1, w_Range2, w_Set, w_Expr, w_App, w_Rev, w_Store, w_AddI, w_DPut, w_If, w_For, w_While, w_Nx, w_SeqL, w_Ret, w_RetL, w_FldNew, w_Bk, w_Ct, w_Run, gZ_eq, gS_eq, pZ_eq, pS_eq, pP_eq, pN_eq, pC_eq, c3_eq, c2_eq, iS_eq, iZ_eq, Res.is_ok, is_mAdd, is_mSub, w_AppIx, mEq_eq, mNe_eq, mLt_eq, mLe_eq, mGt_eq, mGe_eq, mIn_eq, mNin_eq, w_Er, w_ErN, w_Try, w_Cut, w_AugIx, w_mSome, w_mInl, w_mInr, mAlt_l, mAlt_r, w_noErRt, Bool.not_true, Bool.not_false, if_true, Bool.false_eq_true, if_false, decide_eq_true_eq, Bool.not_eq_true', decide_eq_false_iff_not, reduceCtorEq, decide_true, decide_false, Option.isSome_none, Option.isSome_some, Option.isNone_none, Option.isNone_some])))))
section
variable {n : Nat} {ts : List Tr} {chs : List Int} {acts : List Act}
theorem law_fire_is {t : Tr} {m : List Int} {E : Ex → Prop} {Q : Option (List Int) → Prop} (w : WfTr n t) (hn : n ≤ 12) (hm : m.length = n) (k : Q (if covB m t.1 = true then some (fireF t m) else none)) : (m__law_fire (t, m, ())).Is E Q := by
  obtain ⟨t1, t2, t3⟩ := t
  have w1 := w.l1
  have w2 := w.l2
  have w3 := w.l3
  dsimp only at w1 w2 w3 k
  rw [n__law_fire]
  walk_at "wp"
  rw [law_covers_eq]
  refine covers_is (by omega) (by omega) ?_
  cases hcv : covB m t1 with
  | false =>
    walk_at "wp"
    rw [hcv] at k
    exact k
  | true =>
    walk_at "wp"
    rw [hcv, if_pos rfl] at k
    unfold fireF at k
    refine is_mRange (by omega) ?_
    refine for_fold (fireS (t1, t2, t3) m) t2 (fun f l => ∃ a b, l = ((t1, t2, t3), m, f, a, t1, t2, t3, b, ())) ⟨_, _, rfl⟩ ?_ ?_
    · rintro j x l hx ⟨a, b, rfl⟩
      have hx := irange_mem.mp (List.mem_of_getElem? hx)
      have hmv := mv_range w hx.1 (by omega)
      have hfl : ((List.take j (irange 0 (m.length : Int))).foldl (fireS (t1, t2, t3) m) t2).length = n := by rw [fold_len, w2]
      generalize (List.take j (irange 0 (m.length : Int))).foldl (fireS (t1, t2, t3) m) t2 = f at *
      unfold l__law_fire_5
      walk_at "wp"
      refine is_mIxD 0 hx.1 (by omega) ?_
      walk_at "wp"
      have e : t3.getD x.toNat 0 = mv (t1, t2, t3) x := rfl
      rw [e]
      unfold fireS
      by_cases c : mv (t1, t2, t3) x = -1
      · rw [if_pos c, if_neg (by omega)]
        walk_at "wp"
        exact ⟨_, _, rfl⟩
      · rw [if_neg c, if_pos (by omega)]
        walk_at "wp"
        refine is_mIxD 0 hx.1 (by omega) ?_
        rw [e]
        walk_at "wp"
        refine is_mIxD 0 (by omega) (by omega) ?_
        refine is_mIxD 0 hx.1 (by omega) ?_
        refine is_mIxD 0 hx.1 (by omega) ?_
        walk_at "wp"
        refine is_mSet (by omega) (by omega) ?_
        walk_at "wp"
        rw [Int.add_sub_assoc]
        exact ⟨_, _, rfl⟩
    · rintro l ⟨a, b, rfl⟩
      walk_at "wp"
      exact k
theorem hears_getD : ∀ (ps : List Pr) (ws : List (List Int)) (ch : Int), 0 ≤ ch → (∀ p ∈ ps, 0 ≤ p.1) → ch ∉ ps.map (·.1) → (ps.foldl hearS ws).getD ch.toNat [] = ws.getD ch.toNat []
  | [], _, _, _, _, _ => rfl
  | p :: ps, ws, ch, h0, h1, h2 => by
    rw [List.map_cons, List.mem_cons, not_or] at h2
    rw [List.foldl_cons, hears_getD ps _ ch h0 (fun q hq => h1 q (List.mem_cons_of_mem _ hq)) h2.2]
    have hp := h1 p List.mem_cons_self
    unfold hearS
    rw [List.getD_eq_getElem?_getD, List.getD_eq_getElem?_getD, List.getElem?_set_ne (by intro e; exact h2.1 (by omega)), ← List.getD_eq_getElem?_getD]
theorem set_cut {α : Type} {xs : List α} {i : Nat} {x : α} (h : i < xs.length) : xs.take i ++ [x] ++ xs.drop (i + 1) = xs.set i x := by
  rw [List.set_eq_take_append_cons_drop, if_pos h, List.append_assoc]; rfl
theorem law_step_is {c : Cfg} {st : Step} {B : Nat} {E : Ex → Prop} {Q : Option Cfg → Prop} (h : MailOk n ts chs acts) (hc : CfgOk n chs.length B c) (hB : B ≤ 1000) (hs : StepOk st) (kt : canT ts acts c st = true → Q (some (doT ts acts c st))) (kf : canT ts acts c st = false → Q none) : (m__law_mail_step (ts, acts, c, st, ())).Is E Q := by
  obtain ⟨m, ws⟩ := c
  have hm : m.length = n := hc.l1
  have hw : ws.length = chs.length := hc.l2
  have hcl := h.c
  have hws : WsOk chs.length B ws := hc.ws
  rw [n__law_mail_step]
  rcases st with ⟨w, ch, p⟩ | ⟨w, i⟩
  · have hs : w = loseW := hs
    subst hs
    walk_at "wp"
    have ec : canT ts acts (m, ws) (.inl (loseW, ch, p)) = decide (0 ≤ ch ∧ ch < (ws.length : Int) ∧ 0 ≤ p ∧ p < ((ws.getD ch.toNat []).length : Int)) := rfl
    by_cases h1 : ch < 0
    · rw [if_pos h1]
      walk_at "wp"
      exact kf (ec.trans (decide_eq_false (by omega)))
    rw [if_neg h1]
    by_cases h2 : (ws.length : Int) ≤ ch
    · rw [if_pos h2]
      walk_at "wp"
      exact kf (ec.trans (decide_eq_false (by omega)))
    rw [if_neg h2]
    by_cases h3 : p < 0
    · rw [if_pos h3]
      walk_at "wp"
      exact kf (ec.trans (decide_eq_false (by omega)))
    rw [if_neg h3]
    refine is_mIxD [] (by omega) (by omega) ?_
    have hb := getD_le (i := ch.toNat) hws.b
    by_cases h4 : ((ws.getD ch.toNat []).length : Int) ≤ p
    · rw [if_pos h4]
      walk_at "wp"
      exact kf (ec.trans (decide_eq_false (by omega)))
    rw [if_neg h4]
    have k := kt (ec.trans (decide_eq_true (by omega)))
    unfold doT at k
    dsimp only at k
    walk_at "wp"
    refine is_mIxD [] (by omega) (by omega) ?_
    refine is_mIxD [] (by omega) (by omega) ?_
    rw [cut_to _ _ (by omega), cut_from _ _ (by omega)]
    refine is_mCat (by rw [List.length_take, List.length_drop]; omega) ?_
    walk_at "wp"
    rw [cut_to _ _ (by omega), cut_from _ _ (by omega)]
    refine is_mCat (by rw [List.length_take]; simp; omega) ?_
    refine is_mCat (by rw [List.length_append, List.length_take, List.length_drop]; simp; omega) ?_
    walk_at "wp"
    rw [show (ch + 1).toNat = ch.toNat + 1 by omega, show (p + 1).toNat = p.toNat + 1 by omega, set_cut (by omega)]
    exact k
  · have hs : w = fireW := hs
    subst hs
    walk_at "wp"
    rw [if_neg (by decide)]
    walk_at "wp"
    have ec : canT ts acts (m, ws) (.inr (fireW, i)) = (decide (0 ≤ i ∧ i < (ts.length : Int)) && (covB m (ts.getD i.toNat trD).1 && (acts.getD i.toNat acD).1.all (hearOk ws))) := rfl
    by_cases hi : 0 ≤ i ∧ i < ts.length
    · rw [if_neg (by omega), if_neg (by omega)]
      obtain ⟨q1, q2, q3, q4, q5⟩ := h.at_ hi.1 hi.2
      rw [decide_eq_true hi, Bool.true_and] at ec
      walk_at "wp"
      refine is_mIx _ hi.1 q2 ?_
      have ed : doT ts acts (m, ws) (.inr (fireW, i)) = (fireF (ts.getD i.toNat trD) m, (acts.getD i.toNat acD).2.foldl sendS ((acts.getD i.toNat acD).1.foldl hearS ws)) := rfl
      rw [ed] at kt
      clear ed
      generalize hA : acts.getD i.toNat acD = A at *
      obtain ⟨hs, ss⟩ := A
      dsimp only at q4 q5 ec kt
      have s2 := q5.small
      refine forM_is (fun j l => ∃ a b d, l = (ts, acts, (m, ws), .inr (fireW, i), (hs.take j).foldl hearS ws, a, m, ws, b, d, ()) ∧ (hs.take j).all (hearOk ws) = true) ⟨_, _, _, rfl, rfl⟩ ?_ ?_
      · rintro j ⟨x, y⟩ l hx ⟨a, b, d, rfl, hall⟩
        have hp := q4.r _ (List.mem_of_getElem? hx)
        dsimp only at hp
        have z := (WsOk.hears (hs.take j) hws).l
        have hg := hears_getD (hs.take j) ws x hp.1 (fun p hp => (q4.r p (List.mem_of_mem_take hp)).1) (by
          intro hm
          have nd := q4.nd
          have hj : j < hs.length := (List.getElem?_eq_some_iff.mp hx).1
          have e : hs.map (·.1) = (hs.take j).map (·.1) ++ ((hs.drop j).map (·.1)) := by rw [← List.map_append, List.take_append_drop]
          rw [e] at nd
          have hd : x ∈ (hs.drop j).map (·.1) := List.mem_map.mpr ⟨(x, y), List.mem_of_getElem? (i := 0) (by rw [List.getElem?_drop, Nat.add_zero]; exact hx), rfl⟩
          exact (List.nodup_append.mp nd).2.2 x hm x hd rfl)
        unfold l__law_mail_step_11
        walk_at "wp"
        refine is_mIxD [] hp.1 (by omega) ?_
        rw [cut_to _ _ (by decide), show (1 : Int).toNat = 1 from rfl, hg]
        by_cases hh : (ws.getD x.toNat []).take 1 = [y]
        · rw [if_neg (by simpa using hh)]
          walk_at "wp"
          refine is_mIxD [] hp.1 (by omega) ?_
          walk_at "wp"
          refine is_mSet hp.1 (by omega) ?_
          walk_at "wp"
          rw [cut_from _ _ (by decide), show (1 : Int).toNat = 1 from rfl]
          have et : (hs.take (j + 1)).foldl hearS ws = hearS ((hs.take j).foldl hearS ws) (x, y) := by
            rw [List.take_add_one, show hs[j]? = some (x, y) from hx, List.foldl_append]; rfl
          have ea : (hs.take (j + 1)).all (hearOk ws) = true := by
            rw [List.take_add_one, show hs[j]? = some (x, y) from hx, List.all_append, hall]
            simpa [hearOk] using hh
          rw [et]
          exact ⟨_, _, _, rfl, ea⟩
        · rw [if_pos hh]
          walk_at "wp"
          have hf : hs.all (hearOk ws) = false := by
            cases zz : hs.all (hearOk ws) with
            | false => rfl
            | true =>
              have := List.all_eq_true.mp zz _ (List.mem_of_getElem? hx)
              unfold hearOk at this
              exact absurd (of_decide_eq_true this) hh
          exact kf (by rw [ec, hf, Bool.and_false])
      · rintro l ⟨a, b, d, rfl, hall⟩
        rw [List.take_length] at hall ⊢
        rw [hall, Bool.and_true] at ec
        walk_at "wp"
        refine is_mIx _ hi.1 q2 ?_
        walk_at "wp"
        have z0 := WsOk.hears hs hws
        generalize hs.foldl hearS ws = ws1 at *
        refine for_fold sendS ws1 (fun f l => ∃ a b d, l = (ts, acts, (m, ws), .inr (fireW, i), f, a, m, ws, b, d, ())) ⟨_, _, _, rfl⟩ ?_ ?_
        · rintro j ⟨x, y⟩ l hx ⟨a, b, d, rfl⟩
          have hp := q5.r _ (List.mem_of_getElem? hx)
          dsimp only at hp
          have z := WsOk.sends (ss.take j) z0
          have hj : (ss.take j).length ≤ 2 := by rw [List.length_take]; omega
          have hzb := getD_le (i := x.toNat) z.b
          have hzl := z.l
          unfold l__law_mail_step_16
          walk_at "wp"
          refine is_mIxD [] hp.1 (by omega) ?_
          refine is_mCat (by rw [List.length_singleton]; omega) ?_
          walk_at "wp"
          refine is_mSet hp.1 (by omega) ?_
          walk_at "wp"
          exact ⟨_, _, _, rfl⟩
        rintro l ⟨a, b, d, rfl⟩
        walk_at "wp"
        refine is_mIx _ hi.1 q1 ?_
        refine law_fire_is q3 h.net.n2 hm ?_
        cases hcv : covB m (ts.getD i.toNat trD).1 with
        | false =>
          walk_at "wp"
          exact kf (ec.trans hcv)
        | true =>
          walk_at "wp"
          exact kt (ec.trans hcv)
    · rw [decide_eq_false hi, Bool.false_and] at ec
      by_cases h1 : i < 0
      · rw [if_pos h1]
        walk_at "wp"
        exact kf ec
      · rw [if_neg h1, if_pos (by omega)]
        walk_at "wp"
        exact kf ec
end

end W
namespace W
open PySem PySem.Spec PyProof.Rows L2 TC
local macro_rules | `(tactic| walk_at "wp") => `(tactic| ((try simp only [w_V, w_C, w_F, w_U, w_B, w_Cmp, w_And, w_Or, w_Ite, w_Chain, w_IxO, w_LenO, w_Nil, w_Cons, w_U0, w_Pair, w_CallL, w_Make, w_Lc, w_LcIf, w_Pop, w_DGet, w_DGetN, w_DIn, w_DNin, w_InO, w_NinO, w_D1, w_Range1, w_Range2, w_Set, w_Expr, w_App, w_Rev, w_Store, w_AddI, w_DPut, w_If, w_For, w_While, w_Nx, w_SeqL, w_Ret, w_RetL, w_FldNew, w_Bk, w_Ct, w_Run, gZ_eq, gS_eq, pZ_eq, pS_eq, pP_eq, pN_eq, pC_eq, c3_eq, c2_eq, iS_eq, iZ_eq, Res.is_ok, is_mAdd, is_mSub, w_AppIx, mEq_eq, mNe_eq, mLt_eq, mLe_eq, mGt_eq, mGe_eq, mIn_eq, mNin_eq, w_Er, w_ErN, w_Try, w_Cut, w_AugIx, w_mSome, w_mInl, w_mInr, mAlt_l, mAlt_r, w_noErRt, Bool.not_true, Bool.not_false, if_true, Bool.false_eq_true, if_false, decide_eq_true_eq, Bool.not_eq_true', decide_eq_false_iff_not, reduceCtorEq, decide_true, decide_false, Option.isSome_none, Option.isSome_some, Option.isNone_none, Option.isNone_some]); (repeat (rw [rest_eq]; (try simp only [w_V, w_C, w_F, w_U, w_B, w_Cmp, w_And, w_Or, w_Ite, w_Chain, w_IxO, w_LenO, w_Nil, w_Cons, w_U0, w_Pair, w_CallL, w_Make, w_Lc, w_LcIf, w_Pop, w_DGet, w_DGetN, w_DIn, w_DNin, w_InO, w_NinO, w_D1, w_Range1, w_Range2, w_Set, w_Expr, w_App, w_Rev, w_Store, w_AddI, w_DPut, w_If, w_For, w_While, w_Nx, w_SeqL, w_Ret, w_RetL, w_FldNew, w_Bk, w_Ct, w_Run, gZ_eq, gS_eq, pZ_eq, pS_eq, pP_eq, pN_eq, pC_eq, c3_eq, c2_eq, iS_eq, iZ_eq, Res.is_ok, is_mAdd, is_mSub, w_AppIx, mEq_eq, mNe_eq, mLt_eq, mLe_eq, mGt_eq, mGe_eq, mIn_eq, mNin_eq, w_Er, w_ErN, w_Try, w_Cut, w_AugIx, w_mSome, w_mInl, w_mInr, mAlt_l, mAlt_r, w_noErRt, Bool.not_true, Bool.not_false, if_true, Bool.false_eq_true, if_false, decide_eq_true_eq, Bool.not_eq_true', decide_eq_false_iff_not, reduceCtorEq, decide_true, decide_false, Option.isSome_none, Option.isSome_some, Option.isNone_none, Option.isNone_some])))))
theorem marking_is {ds : List Int} {n most : Nat} {E : Ex → Prop} {Q : List Int × List Int → Prop} (hn : n ≤ 1000) (k : ∀ m ds', m.length = n → (∀ x ∈ m, 0 ≤ x ∧ x ≤ (most : Int)) → Q (m, ds')) : (m__law_marking (ds, (n : Int), (most : Int), ())).Is E Q := by
  unfold m__law_marking
  walk_at "wp"
  refine is_mRange (by omega) ?_
  refine comp_any (fun x => 0 ≤ x ∧ x ≤ (most : Int)) (fun s => ∃ a b, s = (a, (n : Int), (most : Int), b, ())) (by rw [len_irange]; omega) ⟨_, _, rfl⟩ ?_ ?_
  · rintro x s hx ⟨a, b, rfl⟩
    simp only [Res.is_bind]
    walk_at "wp"
    refine take_is (by omega) fun i ds' h0 h1 => ?_
    walk_at "wp"
    exact ⟨⟨i, rfl, h0, by omega⟩, _, _, rfl⟩
  · rintro ys s hl hp ⟨a, b, rfl⟩
    walk_at "wp"
    exact k _ _ (by rw [hl, len_irange]) hp
theorem word_is {ds : List Int} {l : Int} {most : Nat} {E : Ex → Prop} {Q : List Int × List Int → Prop} (h0 : 1 ≤ l) (hn : most ≤ 100) (k : ∀ w ds', w.length ≤ most → Q (w, ds')) : (m__law_word (ds, l, (most : Int), ())).Is E Q := by
  unfold m__law_word
  walk_at "wp"
  refine take_is (by omega) fun i ds' h2 h3 => ?_
  walk_at "wp"
  refine is_mRange (by omega) ?_
  have hi : (irange 0 i).length ≤ most := by rw [irange_length]; omega
  refine comp_any (fun x => True) (fun s => ∃ a b, s = (a, l, (most : Int), b, ())) (by omega) ⟨_, _, rfl⟩ ?_ ?_
  · rintro x s hx ⟨a, b, rfl⟩
    simp only [Res.is_bind]
    walk_at "wp"
    refine take_is (by omega) fun i ds' h0 h1 => ?_
    walk_at "wp"
    exact ⟨⟨i, rfl, trivial⟩, _, _, rfl⟩
  · rintro ys s hl hp ⟨a, b, rfl⟩
    walk_at "wp"
    exact k _ _ (by omega)
theorem config_is {ds chs : List Int} {n most longest : Nat} {E : Ex → Prop} {Q : Cfg × List Int → Prop} (hn : n ≤ 1000) (hl : longest ≤ 100) (hc : chs.length ≤ 1000) (h : ∀ x ∈ chs, 1 ≤ x) (k : ∀ c ds', CfgOk n chs.length longest c → (∀ x ∈ c.1, 0 ≤ x ∧ x ≤ (most : Int)) → Q (c, ds')) : (m__law_config (ds, (n : Int), chs, (most : Int), (longest : Int), ())).Is E Q := by
  unfold m__law_config
  walk_at "wp"
  refine marking_is hn fun m ds' hm hr => ?_
  walk_at "wp"
  refine comp_any (fun w => w.length ≤ longest) (fun s => ∃ a b, s = (a, (n : Int), chs, (most : Int), (longest : Int), m, b, ())) (by omega) ⟨_, _, rfl⟩ ?_ ?_
  · rintro x s hx ⟨a, b, rfl⟩
    simp only [Res.is_bind]
    walk_at "wp"
    refine word_is (h x hx) hl fun w ds' hw => ?_
    walk_at "wp"
    exact ⟨⟨w, rfl, hw⟩, _, _, rfl⟩
  · rintro ys s hl hp ⟨a, b, rfl⟩
    walk_at "wp"
    exact k _ _ ⟨hm, hl, hp⟩ hr
theorem menu {α : Type} {xs : List α} {i : Int} {E : Ex → Prop} {Q : α → Prop} (h0 : 0 ≤ i) (h1 : i < xs.length) (k : ∀ x ∈ xs, Q x) : (mIx xs i).Is E Q := by
  have hl : i.toNat < xs.length := by omega
  exact is_mIx xs[i.toNat] h0 (List.getElem?_eq_getElem hl) (k _ (List.getElem_mem hl))
theorem add_at_len {xs : List Int} {i : Nat} {v : Int} : (xs.set i v).length = xs.length := List.length_set
structure AddOk (n : Nat) (c : Int) (xs : List Int) : Prop where
  l : xs.length = n
  r : ∀ x ∈ xs, 0 ≤ x ∧ x ≤ c
theorem AddOk.add {n : Nat} {c : Int} {xs : List Int} {i : Nat} (h : AddOk n c xs) (hc : 0 ≤ c) : AddOk n (c + 1) (xs.set i (xs.getD i 0 + 1)) := ⟨by rw [List.length_set]; exact h.l, fun x hx => by
  rcases List.mem_or_eq_of_mem_set hx with q | q
  · have := h.r x q; omega
  · rw [q, List.getD_eq_getElem?_getD]
    cases e : xs[i]? with
    | none => simp; omega
    | some y => have := h.r y (List.mem_of_getElem? e); simp; omega⟩
theorem zeros_ok {n : Nat} : AddOk n 0 (List.replicate n [(0 : Int)]).flatten := ⟨by simp, fun x hx => by
  simp at hx
  omega⟩
theorem transition_is {ds : List Int} {n : Nat} {pl : Bool} {E : Ex → Prop} {Q : Tr × List Int → Prop} (h1 : 1 ≤ n) (hn : n ≤ 12) (k : ∀ t ds', WfTr n t → (pl = true → t.2.2 = irange 0 (n : Int)) → Q (t, ds')) : (m__law_transition (ds, (n : Int), pl, ())).Is E Q := by
  rw [n__law_transition]
  walk_at "wp"
  refine is_mRep (xs := [(0 : Int)]) (n := (n : Int)) (by omega) (by simp; omega) ?_
  walk_at "wp"
  refine is_mRep (xs := [(0 : Int)]) (n := (n : Int)) (by omega) (by simp; omega) ?_
  have hz : AddOk n 0 (List.replicate (n : Int).toNat [(0 : Int)]).flatten := by rw [Int.toNat_natCast]; exact zeros_ok
  generalize (List.replicate (n : Int).toNat [(0 : Int)]).flatten = z at *
  walk_at "wp"
  refine take_is (by omega) fun i ds h2 h3 => ?_
  walk_at "wp"
  refine menu h2 (by simp; omega) fun c1 hc1 => ?_
  have hc1 : 0 ≤ c1 ∧ c1 ≤ 2 := by simp at hc1; omega
  refine is_mRange (by omega) ?_
  refine forM_is (fun j l => ∃ a t b, l = (a, (n : Int), pl, t, z, b, [], ()) ∧ AddOk n j t) ⟨_, _, _, rfl, hz⟩ ?_ ?_
  · rintro j x l hx ⟨a, t, b, rfl, ht⟩
    unfold l__law_transition_3
    walk_at "wp"
    refine take_is (by omega) fun i ds h2 h3 => ?_
    have hl := ht.l
    refine is_mIxD 0 h2 (by omega) ?_
    walk_at "wp"
    refine is_mSet h2 (by omega) ?_
    walk_at "wp"
    exact ⟨_, _, _, rfl, ht.add (by omega)⟩
  rintro l ⟨a, t, b, rfl, ht⟩
  have ht9 : AddOk n 9 t := ⟨ht.l, fun x hx => by have := ht.r x hx; rw [irange_length] at this; omega⟩
  clear ht
  walk_at "wp"
  refine take_is (by omega) fun i ds h2 h3 => ?_
  walk_at "wp"
  refine menu h2 (by simp; omega) fun c1 hc1 => ?_
  have hc1 : 0 ≤ c1 ∧ c1 ≤ 3 := by simp at hc1; omega
  refine is_mRange (by omega) ?_
  refine forM_is (fun j l => ∃ a g b, l = (a, (n : Int), pl, t, g, b, [], ()) ∧ AddOk n j g) ⟨_, _, _, rfl, hz⟩ ?_ ?_
  · rintro j x l hx ⟨a, g, b, rfl, ht⟩
    unfold l__law_transition_5
    walk_at "wp"
    refine take_is (by omega) fun i ds h2 h3 => ?_
    have hl := ht.l
    refine is_mIxD 0 h2 (by omega) ?_
    walk_at "wp"
    refine is_mSet h2 (by omega) ?_
    walk_at "wp"
    exact ⟨_, _, _, rfl, ht.add (by omega)⟩
  rintro l ⟨a, g, b, rfl, ht⟩
  have hg9 : AddOk n 9 g := ⟨ht.l, fun x hx => by have := ht.r x hx; rw [irange_length] at this; omega⟩
  clear ht
  walk_at "wp"
  refine is_mRng (by omega) ?_
  walk_at "wp"
  have fin : ∀ ds' m, m.length = n → (∀ x ∈ m, -1 ≤ x ∧ x < (n : Int)) → (pl = true → m = irange 0 (n : Int)) → Q ((t, g, m), ds') := fun ds' m q1 q2 q3 => k _ _ ⟨ht9.l, hg9.l, q1, ht9.r, hg9.r, q2⟩ q3
  have own : ∀ x ∈ irange 0 (n : Int), -1 ≤ x ∧ x < (n : Int) := fun x hx => by have := irange_mem.mp hx; omega
  cases pl with
  | true =>
    walk_at "wp"
    exact fin _ _ len_irange own (fun _ => rfl)
  | false =>
    walk_at "wp"
    refine take_is (by omega) fun i ds h2 h3 => ?_
    split
    · walk_at "wp"
      refine is_mRange (by omega) ?_
      refine for_keep (fun l => ∃ a b m, l = (a, (n : Int), false, t, g, b, m, ()) ∧ m.length = n ∧ ∀ x ∈ m, -1 ≤ x ∧ x < (n : Int)) ⟨_, _, _, rfl, len_irange, own⟩ ?_ ?_
      · rintro x l hx ⟨a, b, m, rfl, q1, q2⟩
        have hx := irange_mem.mp hx
        unfold l__law_transition_9
        walk_at "wp"
        refine take_is (by omega) fun i ds h2 h3 => ?_
        split
        · walk_at "wp"
          refine take_is (by omega) fun i ds h2 h3 => ?_
          walk_at "wp"
          refine is_mSet hx.1 (by omega) ?_
          walk_at "wp"
          refine ⟨_, _, _, rfl, by rw [List.length_set]; exact q1, fun y hy => ?_⟩
          rcases List.mem_or_eq_of_mem_set hy with q | q
          · exact q2 y q
          · omega
        · walk_at "wp"
          exact ⟨_, _, _, rfl, q1, q2⟩
      · rintro l ⟨a, b, m, rfl, q1, q2⟩
        walk_at "wp"
        exact fin _ _ q1 q2 (fun h => by cases h)
    · walk_at "wp"
      exact fin _ _ len_irange own (fun h => by cases h)
theorem net_is {ds : List Int} {n most : Nat} {pl : Bool} {E : Ex → Prop} {Q : List Tr × List Int → Prop} (h1 : 1 ≤ n) (hn : n ≤ 12) (hm : 1 ≤ most ∧ most ≤ 20) (k : ∀ ts ds', NetOk n ts → 1 ≤ ts.length → ts.length ≤ most → (pl = true → ∀ t ∈ ts, t.2.2 = irange 0 (n : Int)) → Q (ts, ds')) : (m__law_net (ds, (n : Int), (most : Int), pl, ())).Is E Q := by
  unfold m__law_net
  walk_at "wp"
  refine take_is (by omega) fun i ds' h2 h3 => ?_
  walk_at "wp"
  refine is_mRange (by omega) ?_
  have hi : (irange 0 (1 + i)).length ≤ most ∧ 1 ≤ (irange 0 (1 + i)).length := by rw [irange_length]; omega
  refine comp_any (fun t => WfTr n t ∧ (pl = true → t.2.2 = irange 0 (n : Int))) (fun s => ∃ a b, s = (a, (n : Int), (most : Int), pl, b, ())) (by omega) ⟨_, _, rfl⟩ ?_ ?_
  · rintro x s hx ⟨a, b, rfl⟩
    simp only [Res.is_bind]
    walk_at "wp"
    refine transition_is h1 hn fun t ds' h4 h5 => ?_
    walk_at "wp"
    exact ⟨⟨t, rfl, h4, h5⟩, _, _, rfl⟩
  · rintro ys s hl hp ⟨a, b, rfl⟩
    walk_at "wp"
    exact k _ _ ⟨h1, hn, by omega, fun t ht => (hp t ht).1⟩ (by omega) (by omega) (fun h t ht => (hp t ht).2 h)
theorem action_is {ds chs : List Int} {E : Ex → Prop} {Q : Act × List Int → Prop} (hc : chs.length ≤ 2) (h : ∀ x ∈ chs, 1 ≤ x) (k : ∀ a ds', WfPs chs a.1 → WfPs chs a.2 → Q (a, ds')) : (m__law_action (ds, chs, ())).Is E Q := by
  rw [n__law_action]
  walk_at "wp"
  refine is_mRange (by omega) ?_
  have step : ∀ {j : Nat} {ps : List Pr} {c v : Int}, (WfPs chs ps ∧ ∀ p ∈ ps, p.1 < j) → c = j → j < chs.length → 0 ≤ v → v < chs.getD c.toNat 0 → WfPs chs (ps ++ [(c, v)]) ∧ ∀ p ∈ ps ++ [(c, v)], p.1 < (j + 1 : Nat) := by
    intro j ps c v ⟨w, hj⟩ hc' hjl h0 h1
    refine ⟨⟨fun p hp => ?_, ?_⟩, fun p hp => ?_⟩
    · rcases List.mem_append.mp hp with hp | hp
      · exact w.r p hp
      · rw [List.mem_singleton.mp hp]; dsimp only; omega
    · rw [List.map_append, List.nodup_append]
      refine ⟨w.nd, by simp, fun a ha b hb e => ?_⟩
      obtain ⟨q, hq, rfl⟩ := List.mem_map.mp ha
      have := hj q hq
      simp at hb
      omega
    · rcases List.mem_append.mp hp with hp | hp
      · have := hj p hp; omega
      · rw [List.mem_singleton.mp hp]; dsimp only; omega
  refine forM_is (fun j l => ∃ a hs ss b, l = (a, chs, hs, ss, b, ()) ∧ (WfPs chs hs ∧ ∀ p ∈ hs, p.1 < j) ∧ (WfPs chs ss ∧ ∀ p ∈ ss, p.1 < j)) ⟨_, _, _, _, rfl, ⟨⟨(fun _ m => by cases m), List.nodup_nil⟩, (fun _ m => by cases m)⟩, ⟨⟨(fun _ m => by cases m), List.nodup_nil⟩, (fun _ m => by cases m)⟩⟩ ?_ ?_
  · rintro j x l hx ⟨a, hs, ss, b, rfl, q1, q2⟩
    obtain ⟨hx1, hx2⟩ := irange_get hx
    have hxl : x.toNat < chs.length := by omega
    have s1 := q1.1.small
    have s2 := q2.1.small
    have hd : 1 ≤ chs.getD x.toNat 0 := by
      rw [List.getD_eq_getElem?_getD, List.getElem?_eq_getElem hxl]
      exact h _ (List.getElem_mem hxl)
    have up : ∀ {ps : List Pr}, (WfPs chs ps ∧ ∀ p ∈ ps, p.1 < j) → (WfPs chs ps ∧ ∀ p ∈ ps, p.1 < (j + 1 : Nat)) := fun ⟨w, h⟩ => ⟨w, fun p hp => by have := h p hp; omega⟩
    unfold l__law_action_3
    walk_at "wp"
    refine take_is (by omega) fun i1 ds1 _ _ => ?_
    split
    · walk_at "wp"
      refine is_mIxD 0 (by omega) (by omega) ?_
      refine take_is (by omega) fun i3 ds3 h4 h5 => ?_
      refine is_mApp (by omega) ?_
      walk_at "wp"
      refine take_is (by omega) fun i2 ds2 _ _ => ?_
      split
      · walk_at "wp"
        refine is_mIxD 0 (by omega) (by omega) ?_
        refine take_is (by omega) fun i4 ds4 h6 h7 => ?_
        refine is_mApp (by omega) ?_
        walk_at "wp"
        exact ⟨_, _, _, _, rfl, step q1 (by omega) (by omega) h4 h5, step q2 (by omega) (by omega) h6 h7⟩
      · walk_at "wp"
        exact ⟨_, _, _, _, rfl, step q1 (by omega) (by omega) h4 h5, up q2⟩
    · walk_at "wp"
      refine take_is (by omega) fun i2 ds2 _ _ => ?_
      split
      · walk_at "wp"
        refine is_mIxD 0 (by omega) (by omega) ?_
        refine take_is (by omega) fun i4 ds4 h6 h7 => ?_
        refine is_mApp (by omega) ?_
        walk_at "wp"
        exact ⟨_, _, _, _, rfl, up q1, step q2 (by omega) (by omega) h6 h7⟩
      · walk_at "wp"
        exact ⟨_, _, _, _, rfl, up q1, up q2⟩
  rintro l ⟨a, hs, ss, b, rfl, q1, q2⟩
  walk_at "wp"
  split
  · walk_at "wp"
    refine take_is (by omega) fun i2 ds2 _ _ => ?_
    split
    · walk_at "wp"
      exact k _ _ ⟨fun p hp => q1.1.r p (List.mem_reverse.mp hp), by rw [List.map_reverse]; exact (List.reverse_perm _).nodup_iff.mpr q1.1.nd⟩ q2.1
    · walk_at "wp"
      exact k _ _ q1.1 q2.1
  · walk_at "wp"
    exact k _ _ q1.1 q2.1
theorem step_is {ds chs : List Int} {ts : List Tr} {E : Ex → Prop} {Q : Step × List Int → Prop} (k : ∀ s ds', StepOk s → Q (s, ds')) : (m__law_drawn_step (ds, ts, chs, ())).Is E Q := by
  unfold m__law_drawn_step
  walk_at "wp"
  refine take_is (by omega) fun i ds h2 h3 => ?_
  split
  · walk_at "wp"
    refine take_is (by omega) fun i ds h2 h3 => ?_
    walk_at "wp"
    refine take_is (by omega) fun i ds h2 h3 => ?_
    walk_at "wp"
    exact k _ _ rfl
  · walk_at "wp"
    refine take_is (by omega) fun i ds h2 h3 => ?_
    walk_at "wp"
    exact k _ _ rfl

end W
namespace W
open PySem PySem.Spec PyProof.Rows L2 TC
local macro_rules | `(tactic| walk_at "wp") => `(tactic| ((try simp only [w_V, w_C, w_F, w_U, w_B, w_Cmp, w_And, w_Or, w_Ite, w_Chain, w_IxO, w_LenO, w_Nil, w_Cons, w_U0, w_Pair, w_CallL, w_Make, w_Lc, w_LcIf, w_Pop, w_DGet, w_DGetN, w_DIn, w_DNin, w_InO, w_NinO, w_D1, w_Range1, w_Range2, w_Set, w_Expr, w_App, w_Rev, w_Store, w_AddI, w_DPut, w_If, w_For, w_While, w_Nx, w_SeqL, w_Ret, w_RetL, w_FldNew, w_Bk, w_Ct, w_Run, gZ_eq, gS_eq, pZ_eq, pS_eq, pP_eq, pN_eq, pC_eq, c3_eq, c2_eq, iS_eq, iZ_eq, Res.is_ok, is_mAdd, is_mSub, w_AppIx, mEq_eq, mNe_eq, mLt_eq, mLe_eq, mGt_eq, mGe_eq, mIn_eq, mNin_eq, w_Er, w_ErN, w_Try, w_Cut, w_AugIx, w_mSome, w_mInl, w_mInr, mAlt_l, mAlt_r, w_noErRt, Bool.not_true, Bool.not_false, if_true, Bool.false_eq_true, if_false, decide_eq_true_eq, Bool.not_eq_true', decide_eq_false_iff_not, reduceCtorEq, decide_true, decide_false, Option.isSome_none, Option.isSome_some, Option.isNone_none, Option.isNone_some]); (repeat (rw [rest_eq]; (try simp only [w_V, w_C, w_F, w_U, w_B, w_Cmp, w_And, w_Or, w_Ite, w_Chain, w_IxO, w_LenO, w_Nil, w_Cons, w_U0, w_Pair, w_CallL, w_Make, w_Lc, w_LcIf, w_Pop, w_DGet, w_DGetN, w_DIn, w_DNin, w_InO, w_NinO, w_D1, w_Range1, w_Range2, w_Set, w_Expr, w_App, w_Rev, w_Store, w_AddI, w_DPut, w_If, w_For, w_While, w_Nx, w_SeqL, w_Ret, w_RetL, w_FldNew, w_Bk, w_Ct, w_Run, gZ_eq, gS_eq, pZ_eq, pS_eq, pP_eq, pN_eq, pC_eq, c3_eq, c2_eq, iS_eq, iZ_eq, Res.is_ok, is_mAdd, is_mSub, w_AppIx, mEq_eq, mNe_eq, mLt_eq, mLe_eq, mGt_eq, mGe_eq, mIn_eq, mNin_eq, w_Er, w_ErN, w_Try, w_Cut, w_AugIx, w_mSome, w_mInl, w_mInr, mAlt_l, mAlt_r, w_noErRt, Bool.not_true, Bool.not_false, if_true, Bool.false_eq_true, if_false, decide_eq_true_eq, Bool.not_eq_true', decide_eq_false_iff_not, reduceCtorEq, decide_true, decide_false, Option.isSome_none, Option.isSome_some, Option.isNone_none, Option.isNone_some])))))
abbrev endW : List Nat := [101, 110, 100]
abbrev stopW : List Nat := [115, 116, 111, 112]
abbrev Outc := (List Nat × Cfg) ⊕ (List Nat × Int)
section
variable {n : Nat} {ts : List Tr} {chs : List Int} {acts : List Act}
theorem outcome_is {c : Cfg} {steps : List Step} {B : Nat} {E : Ex → Prop} {Q : Outc → Prop} (h : MailOk n ts chs acts) (hc : CfgOk n chs.length B c) (hs : ∀ s ∈ steps, StepOk s) (hl : steps.length ≤ 100) (hB : B ≤ 100)
    (k : ∀ c', runF ts acts c steps = some c' → Q (.inl (endW, c'))) (ke : ∀ (i : Nat) s c', steps[i]? = some s → runF ts acts c (steps.take i) = some c' → canT ts acts c' s = false → Q (.inr (stopW, (i : Int)))) : (m__law_outcome (mailR n ts chs acts, c, steps, ())).Is E Q := by
  unfold m__law_outcome
  walk_at "wp"
  refine take_mail_is h hc hs hl hB (fun c' hr => ?_) (fun i s c' h1 h2 h3 => ?_)
  · exact k c' hr
  · dsimp only
    rw [if_pos rfl, w_noErRt]
    exact ke i s c' h1 h2 h3
structure J (ts : List Tr) (acts : List Act) (c0 : Cfg) (steps : List Step) (now : Option Cfg) (ex : Outc) : Prop where
  j : (∃ c, now = some c ∧ runF ts acts c0 steps = some c ∧ ex = .inl (endW, c)) ∨ (now = none ∧ ∃ (i : Nat) (s : Step) (c' : Cfg), steps[i]? = some s ∧ runF ts acts c0 (steps.take i) = some c' ∧ canT ts acts c' s = false ∧ ex = .inr (stopW, (i : Int)))
theorem run_snoc {c : Cfg} {steps : List Step} {s : Step} : runF ts acts c (steps ++ [s]) = stepO ts acts (runF ts acts c steps) s := by
  unfold runF
  rw [List.foldl_append]; rfl
theorem J.final {c0 : Cfg} {steps : List Step} {now : Option Cfg} {ex : Outc} {B : Nat} {E : Ex → Prop} {Q : Outc → Prop} (jj : J ts acts c0 steps now ex) (h : MailOk n ts chs acts) (hc : CfgOk n chs.length B c0) (hs : ∀ s ∈ steps, StepOk s) (hl : steps.length ≤ 100) (hB : B ≤ 100) (k : Q ex) : (m__law_outcome (mailR n ts chs acts, c0, steps, ())).Is E Q := by
  refine outcome_is h hc hs hl hB (fun c' hr => ?_) (fun i s c' h1 h2 h3 => ?_)
  · rcases jj.j with ⟨c, e1, e2, e3⟩ | ⟨e1, i, s, c2, e2, e3, e4, e5⟩
    · rw [hr] at e2; cases e2; rw [← e3]; exact k
    · have hi : i < steps.length := (List.getElem?_eq_some_iff.mp e2).1
      have := run_fails e2 e3 e4 steps.length hi
      rw [List.take_length, hr] at this; cases this
  · have hi : i < steps.length := (List.getElem?_eq_some_iff.mp h1).1
    rcases jj.j with ⟨c, e1, e2, e3⟩ | ⟨e1, i2, s2, c2, e2, e3, e4, e5⟩
    · have := run_fails h1 h2 h3 steps.length hi
      rw [List.take_length, e2] at this; cases this
    · have e : i = i2 := by
        rcases Nat.lt_trichotomy i i2 with q | q | q
        · have := run_fails h1 h2 h3 i2 q
          rw [e3] at this; cases this
        · exact q
        · have := run_fails e2 e3 e4 i q
          rw [h2] at this; cases this
      rw [e, ← e5]; exact k
theorem J.snoc {c0 c : Cfg} {steps : List Step} {now : Option Cfg} {ex : Outc} {s : Step} (jj : J ts acts c0 steps now ex) : J ts acts c0 (steps ++ [s]) (stepO ts acts now s)
    (match now with | some c => if canT ts acts c s = true then .inl (endW, doT ts acts c s) else .inr (stopW, (steps.length : Int)) | none => ex) := by
  rcases jj.j with ⟨c, e1, e2, e3⟩ | ⟨e1, i, s2, c2, e2, e3, e4, e5⟩
  · subst e1
    dsimp only
    cases hcan : canT ts acts c s with
    | true =>
      refine ⟨.inl ⟨doT ts acts c s, ?_, ?_, by rw [if_pos rfl]⟩⟩
      · show (if canT ts acts c s = true then some (doT ts acts c s) else none) = _
        rw [hcan]; rfl
      · rw [run_snoc, e2]
        show (if canT ts acts c s = true then some (doT ts acts c s) else none) = _
        rw [hcan]; rfl
    | false =>
      refine ⟨.inr ⟨?_, steps.length, s, c, by simp, ?_, hcan, by rw [if_neg (by decide)]⟩⟩
      · show (if canT ts acts c s = true then some (doT ts acts c s) else none) = _
        rw [hcan]; rfl
      · rw [List.take_left' rfl]; exact e2
  · subst e1
    have hi : i < steps.length := (List.getElem?_eq_some_iff.mp e2).1
    refine ⟨.inr ⟨rfl, i, s2, c2, by rw [List.getElem?_append_left hi]; exact e2, ?_, e4, e5⟩⟩
    rw [List.take_append_of_le_length (by omega)]; exact e3
end
theorem law_true (ns : List Int) (hns : ns.length ≤ 63) : m_law (ns, ()) = .ok true := by
  refine of_is ?_
  rw [n_law]
  walk_at "wp"
  refine draws_is hns (by omega) (by omega) fun ds => ?_
  walk_at "wp"
  refine take_is (by omega) fun i ds h2 h3 => ?_
  obtain ⟨n, hn⟩ : ∃ n : Nat, 1 + i = (n : Int) := ⟨(1 + i).toNat, by omega⟩
  rw [hn]
  have hn1 : 1 ≤ n ∧ n ≤ 3 := by omega
  clear hn h2 h3
  walk_at "wp"
  refine net_is (most := 3) hn1.1 (by omega) (by omega) fun ts ds hnet ht1 ht2 _ => ?_
  walk_at "wp"
  refine take_is (by omega) fun i ds h2 h3 => ?_
  walk_at "wp"
  refine is_mRange (by omega) ?_
  have hcl : (irange 0 (1 + i)).length ≤ 2 := by rw [irange_length]; omega
  refine comp_any (fun x => 1 ≤ x ∧ x ≤ 3) (fun s => ∃ ds a, s = (ns, ds, (n : Int), ts, [], [], dMailNet, ([], []), false, [], none, .inl ([], ([], [])), a, [], .inl ([], 0, 0), none, ([], [], []), false, ())) (by omega) ⟨_, _, rfl⟩ ?_ ?_
  · rintro x s hx ⟨ds, a, rfl⟩
    simp only [Res.is_bind]
    walk_at "wp"
    refine take_is (by omega) fun i ds h2 h3 => ?_
    walk_at "wp"
    exact ⟨⟨_, rfl, by omega, by omega⟩, _, _, rfl⟩
  rintro chs s hl hch ⟨ds, a, rfl⟩
  walk_at "wp"
  refine comp_any (fun x => WfPs chs x.1 ∧ WfPs chs x.2) (fun s => ∃ ds b, s = (ns, ds, (n : Int), ts, chs, [], dMailNet, ([], []), false, [], none, .inl ([], ([], [])), a, [], .inl ([], 0, 0), none, b, false, ())) (by omega) ⟨_, _, rfl⟩ ?_ ?_
  · rintro x s hx ⟨ds, b, rfl⟩
    simp only [Res.is_bind]
    walk_at "wp"
    refine action_is (by omega) (fun x hx => (hch x hx).1) fun A ds h2 h3 => ?_
    walk_at "wp"
    exact ⟨⟨_, rfl, h2, h3⟩, _, _, rfl⟩
  rintro acts s hal hac ⟨ds, b, rfl⟩
  have hmail : MailOk n ts chs acts := ⟨hnet, by omega, fun x hx => by have := hch x hx; omega, hal, hac⟩
  walk_at "wp"
  refine Net_is ⟨by omega, by omega⟩ hnet.l hnet.w ?_
  walk_at "wp"
  refine MailNet_is hmail ?_
  walk_at "wp"
  refine config_is (most := 3) (longest := 4) (by omega) (by omega) (by omega) (fun x hx => (hch x hx).1) fun c0 ds hc0 _ => ?_
  walk_at "wp"
  refine take_is (by omega) fun i ds _ _ => ?_
  walk_at "wp"
  refine take_is (by omega) fun nt ds h2 h3 => ?_
  walk_at "wp"
  refine is_mRange (by omega) ?_
  generalize decide (i = 0) = only
  have hnt : (irange 0 nt).length ≤ 15 := by rw [irange_length]; omega
  refine forM_is (fun j l => ∃ ds steps now ex k st af tr cn, l = (ns, ds, (n : Int), ts, chs, acts, mailR n ts chs acts, c0, only, steps, now, ex, k, [], st, af, tr, cn, ()) ∧ J ts acts c0 steps now ex ∧ (∀ c, now = some c → CfgOk n chs.length (4 + 2 * j) c) ∧ (∀ s ∈ steps, StepOk s) ∧ steps.length ≤ j)
    ⟨_, _, _, _, _, _, _, _, _, rfl, ⟨.inl ⟨c0, rfl, rfl, rfl⟩⟩, fun c hc => by cases hc; exact hc0, (fun _ m => by cases m), Nat.le_refl _⟩ ?_ ?_
  · rintro j x l hx ⟨ds, steps, now, ex, k, st, af, tr, cn, rfl, jj, hnow, hst, hsl⟩
    have hj : j < 15 := by have := (List.getElem?_eq_some_iff.mp hx).1; omega
    unfold l_law_12
    walk_at "wp"
    refine step_is fun st ds hso => ?_
    walk_at "wp"
    have jn := jj.snoc (c := c0) (s := st)
    have keep : ∀ c, now = some c → CfgOk n chs.length (4 + 2 * (j + 1)) c := fun c hc => by
      have := hnow c hc
      exact ⟨this.l1, this.l2, fun w hw => by have := this.b w hw; omega⟩
    have hst2 : ∀ s ∈ steps ++ [st], StepOk s := fun s hs => by
      rcases List.mem_append.mp hs with q | q
      · exact hst s q
      · rw [List.mem_singleton.mp q]; exact hso
    cases now with
    | none =>
      have jn : J ts acts c0 (steps ++ [st]) none ex := jn
      walk_at "wp"
      cases only with
      | false =>
        walk_at "wp"
        refine is_mApp (by omega) ?_
        walk_at "wp"
        exact ⟨_, _, _, _, _, _, _, _, _, rfl, jn, (fun c hc => by cases hc), hst2, by simp; omega⟩
      | true =>
        walk_at "wp"
        refine take_is (by omega) fun i ds _ _ => ?_
        split
        · walk_at "wp"
          refine is_mApp (by omega) ?_
          walk_at "wp"
          exact ⟨_, _, _, _, _, _, _, _, _, rfl, jn, (fun c hc => by cases hc), hst2, by simp; omega⟩
        · walk_at "wp"
          exact ⟨_, _, _, _, _, _, _, _, _, rfl, jj, keep, hst, by omega⟩
    | some c =>
      have hcok := hnow c rfl
      walk_at "wp"
      refine law_step_is hmail hcok (by omega) hso (fun hcan => ?_) (fun hcan => ?_)
      · walk_at "wp"
        refine can_take_is hmail hcok hso ?_
        rw [hcan]
        walk_at "wp"
        refine is_mApp (by omega) ?_
        walk_at "wp"
        have e1 : stepO ts acts (some c) st = some (doT ts acts c st) := by
          show (if canT ts acts c st = true then some (doT ts acts c st) else none) = _
          rw [hcan]; rfl
        rw [e1] at jn
        dsimp only at jn
        rw [hcan, if_pos rfl] at jn
        have hd := do_ok hmail hcok hcan
        exact ⟨_, _, _, _, _, _, _, _, _, rfl, jn, (fun c hc => by cases hc; exact hd), hst2, by simp; omega⟩
      · walk_at "wp"
        refine can_take_is hmail hcok hso ?_
        rw [hcan]
        walk_at "wp"
        have e1 : stepO ts acts (some c) st = none := by
          show (if canT ts acts c st = true then some (doT ts acts c st) else none) = _
          rw [hcan]; rfl
        rw [e1] at jn
        dsimp only at jn
        rw [hcan, if_neg (by decide)] at jn
        have e2 : ((steps ++ [st]).length : Int) - 1 = steps.length := by simp
        cases only with
        | false =>
          walk_at "wp"
          refine is_mApp (by omega) ?_
          walk_at "wp"
          rw [e2]
          exact ⟨_, _, _, _, _, _, _, _, _, rfl, jn, (fun c hc => by cases hc), hst2, by simp; omega⟩
        | true =>
          walk_at "wp"
          refine take_is (by omega) fun i ds _ _ => ?_
          split
          · walk_at "wp"
            refine is_mApp (by omega) ?_
            walk_at "wp"
            rw [e2]
            exact ⟨_, _, _, _, _, _, _, _, _, rfl, jn, (fun c hc => by cases hc), hst2, by simp; omega⟩
          · walk_at "wp"
            exact ⟨_, _, _, _, _, _, _, _, _, rfl, jj, keep, hst, by omega⟩
  · rintro l ⟨ds, steps, now, ex, k, st, af, tr, cn, rfl, jj, hnow, hst, hsl⟩
    walk_at "wp"
    refine jj.final hmail hc0 hst (by omega) (by omega) ?_
    walk_at "wp"

end W
namespace W
open PySem PySem.Spec PyProof.Rows L2 TC
abbrev St' := L2.St
def topS' (i : Nat) : Stmt := PySem.Challenge.pw_covernets_k40_mail_steps.main.body.getD i (.Pass ⟨0, 0, 0, 0⟩)
abbrev XR0 : XRel := fun _ _ _ _ => True
theorem all_mk {l : PySem.W.OpenLaw} {w : World} {K : PySem.W.Frag} {h : Heap} {mg : Str → Option Value} {fa f1 f2 f3 f4 f5 f6 f7 f8 f9 f10 f11 f12 f13 f14 f15 f16 f17 f18 f19 f20 f21 f22 f23 f24 f25 f26 f27 f28 CNet CMailNet CNotEnabled fNotEnabled : Addr} (X : K.In h) (G : h.Ns mainGlobals mg) (hfa : mg "law" = some (.ref fa))
    {tkLOST tkMOST_CHANNELS tkMOST_LETTERS tkMOST_PLACES tkMOST_TRANSITIONS tkMOST_WEIGHT : Tok}
    {od1 an1 : Option Addr} {sl1 : Array (Option Value)} {oc1 kV1 dc1 pm1 cd1 ct1 : Value}
    {od2 an2 : Option Addr} {sl2 : Array (Option Value)} {oc2 kV2 dc2 pm2 cd2 ct2 : Value}
    {od3 an3 : Option Addr} {sl3 : Array (Option Value)} {oc3 kV3 dc3 pm3 cd3 ct3 : Value}
    {od4 an4 : Option Addr} {sl4 : Array (Option Value)} {oc4 kV4 dc4 pm4 cd4 ct4 : Value}
    {od5 an5 : Option Addr} {sl5 : Array (Option Value)} {oc5 kV5 dc5 pm5 cd5 ct5 : Value}
    {od6 an6 : Option Addr} {sl6 : Array (Option Value)} {oc6 kV6 dc6 pm6 cd6 ct6 : Value}
    {od7 an7 : Option Addr} {sl7 : Array (Option Value)} {oc7 kV7 dc7 pm7 cd7 ct7 : Value}
    {od8 an8 : Option Addr} {sl8 : Array (Option Value)} {oc8 kV8 dc8 pm8 cd8 ct8 : Value}
    {od9 an9 : Option Addr} {sl9 : Array (Option Value)} {oc9 kV9 dc9 pm9 cd9 ct9 : Value}
    {od10 an10 : Option Addr} {sl10 : Array (Option Value)} {oc10 kV10 dc10 pm10 cd10 ct10 : Value}
    {od11 an11 : Option Addr} {sl11 : Array (Option Value)} {oc11 kV11 dc11 pm11 cd11 ct11 : Value}
    {od12 an12 : Option Addr} {sl12 : Array (Option Value)} {oc12 kV12 dc12 pm12 cd12 ct12 : Value}
    {od13 an13 : Option Addr} {sl13 : Array (Option Value)} {oc13 kV13 dc13 pm13 cd13 ct13 : Value}
    {od14 an14 : Option Addr} {sl14 : Array (Option Value)} {oc14 kV14 dc14 pm14 cd14 ct14 : Value}
    {od15 an15 : Option Addr} {sl15 : Array (Option Value)} {oc15 kV15 dc15 pm15 cd15 ct15 : Value}
    {od16 an16 : Option Addr} {sl16 : Array (Option Value)} {oc16 kV16 dc16 pm16 cd16 ct16 : Value}
    {od17 an17 : Option Addr} {sl17 : Array (Option Value)} {oc17 kV17 dc17 pm17 cd17 ct17 : Value}
    {od18 an18 : Option Addr} {sl18 : Array (Option Value)} {oc18 kV18 dc18 pm18 cd18 ct18 : Value}
    {od19 an19 : Option Addr} {sl19 : Array (Option Value)} {oc19 kV19 dc19 pm19 cd19 ct19 : Value}
    {od20 an20 : Option Addr} {sl20 : Array (Option Value)} {oc20 kV20 dc20 pm20 cd20 ct20 : Value}
    {od21 an21 : Option Addr} {sl21 : Array (Option Value)} {oc21 kV21 dc21 pm21 cd21 ct21 : Value}
    {od22 an22 : Option Addr} {sl22 : Array (Option Value)} {oc22 kV22 dc22 pm22 cd22 ct22 : Value}
    {od23 an23 : Option Addr} {sl23 : Array (Option Value)} {oc23 kV23 dc23 pm23 cd23 ct23 : Value}
    {od24 an24 : Option Addr} {sl24 : Array (Option Value)} {oc24 kV24 dc24 pm24 cd24 ct24 : Value}
    {od25 an25 : Option Addr} {sl25 : Array (Option Value)} {oc25 kV25 dc25 pm25 cd25 ct25 : Value}
    {od26 an26 : Option Addr} {sl26 : Array (Option Value)} {oc26 kV26 dc26 pm26 cd26 ct26 : Value}
    {od27 an27 : Option Addr} {sl27 : Array (Option Value)} {oc27 kV27 dc27 pm27 cd27 ct27 : Value}
    {od28 an28 : Option Addr} {sl28 : Array (Option Value)} {oc28 kV28 dc28 pm28 cd28 ct28 : Value}
    {nmNotEnabled qnNotEnabled : Str} {NNotEnabled CBNotEnabled : Addr} {bsNotEnabled : List Value} {snNotEnabled : List Str} {subNotEnabled : List Value} {abNotEnabled : Bool} {colNotEnabled : Option Bool} {ddNotEnabled : Option Addr} {m0NotEnabled m1NotEnabled m2NotEnabled m3NotEnabled m5NotEnabled : Option Value} {odNotEnabled anNotEnabled : Option Addr} {slNotEnabled : Array (Option Value)} {ocNotEnabled kVNotEnabled dcNotEnabled pmNotEnabled cdNotEnabled ctNotEnabled : Value}
    (a1 : PySem.W.nsIn K mainGlobals "covers" = some (some (.ref f1))) (l1 : K.lookup f1 = some ⟨oc1, od1, .func (PySem.W.fnOf "covers" "covers" (defArgs s_covers) (defBody s_covers) (defScope s_covers) .none kV1 dc1 pm1 an1 cd1 ct1), sl1⟩) (c1 : PySem.W.codeIn K cd1 "covers" = true) (k1 : PySem.W.keepIn K (.ref f1) = true)
    (a2 : PySem.W.nsIn K mainGlobals "all_from" = some (some (.ref f2))) (l2 : K.lookup f2 = some ⟨oc2, od2, .func (PySem.W.fnOf "all_from" "all_from" (defArgs s_all_from) (defBody s_all_from) (defScope s_all_from) .none kV2 dc2 pm2 an2 cd2 ct2), sl2⟩) (c2 : PySem.W.codeIn K cd2 "all_from" = true) (k2 : PySem.W.keepIn K (.ref f2) = true)
    (a3 : PySem.W.nsIn K mainGlobals "fits" = some (some (.ref f3))) (l3 : K.lookup f3 = some ⟨oc3, od3, .func (PySem.W.fnOf "fits" "fits" (defArgs s_fits) (defBody s_fits) (defScope s_fits) .none kV3 dc3 pm3 an3 cd3 ct3), sl3⟩) (c3 : PySem.W.codeIn K cd3 "fits" = true) (k3 : PySem.W.keepIn K (.ref f3) = true)
    (aCNet : PySem.W.nsIn K mainGlobals "Net" = some (some (.ref CNet)))
    (a4 : PySem.W.findIn K (.ref CNet) "__init__" = some (some (.ref f4))) (i4 : PySem.W.isFn K (.ref f4) = true) (l4 : K.lookup f4 = some ⟨oc4, od4, .func (PySem.W.fnOf "__init__" "Net.__init__" (defArgs s_Net) (defBody s_Net) (defScope s_Net) .none kV4 dc4 pm4 an4 cd4 ct4), sl4⟩) (c4 : PySem.W.codeIn K cd4 "Net.__init__" = true) (k4 : PySem.W.keepIn K (.ref f4) = true)
    (pgNet : PySem.W.plainGet K CNet Str.empty = true) (hdNet : PySem.W.hasDictIn K CNet = true) (poNet : PySem.W.plainOver K CNet = true) (saNet : PySem.W.findIn K (.ref CNet) "__setattr__" = some (some (.builtin "object.__setattr__"))) (mkNet : PySem.W.makesIn K CNet = true) (kcNet : PySem.W.keepIn K (.ref CNet) = true)
    (nNetplaces : PySem.W.findIn K (.ref CNet) "places" = some none)
    (nNettransitions : PySem.W.findIn K (.ref CNet) "transitions" = some none)
    (a5 : PySem.W.nsIn K mainGlobals "enabled" = some (some (.ref f5))) (l5 : K.lookup f5 = some ⟨oc5, od5, .func (PySem.W.fnOf "enabled" "enabled" (defArgs s_enabled) (defBody s_enabled) (defScope s_enabled) .none kV5 dc5 pm5 an5 cd5 ct5), sl5⟩) (c5 : PySem.W.codeIn K cd5 "enabled" = true) (k5 : PySem.W.keepIn K (.ref f5) = true)
    (a6 : PySem.W.nsIn K mainGlobals "fire" = some (some (.ref f6))) (l6 : K.lookup f6 = some ⟨oc6, od6, .func (PySem.W.fnOf "fire" "fire" (defArgs s_fire) (defBody s_fire) (defScope s_fire) .none kV6 dc6 pm6 an6 cd6 ct6), sl6⟩) (c6 : PySem.W.codeIn K cd6 "fire" = true) (k6 : PySem.W.keepIn K (.ref f6) = true)
    (a7 : PySem.W.nsIn K mainGlobals "right_pairs" = some (some (.ref f7))) (l7 : K.lookup f7 = some ⟨oc7, od7, .func (PySem.W.fnOf "right_pairs" "right_pairs" (defArgs s_right_pairs) (defBody s_right_pairs) (defScope s_right_pairs) .none kV7 dc7 pm7 an7 cd7 ct7), sl7⟩) (c7 : PySem.W.codeIn K cd7 "right_pairs" = true) (k7 : PySem.W.keepIn K (.ref f7) = true)
    (a8 : PySem.W.nsIn K mainGlobals "pairs_of" = some (some (.ref f8))) (l8 : K.lookup f8 = some ⟨oc8, od8, .func (PySem.W.fnOf "pairs_of" "pairs_of" (defArgs s_pairs_of) (defBody s_pairs_of) (defScope s_pairs_of) .none kV8 dc8 pm8 an8 cd8 ct8), sl8⟩) (c8 : PySem.W.codeIn K cd8 "pairs_of" = true) (k8 : PySem.W.keepIn K (.ref f8) = true)
    (aCMailNet : PySem.W.nsIn K mainGlobals "MailNet" = some (some (.ref CMailNet)))
    (a9 : PySem.W.findIn K (.ref CMailNet) "__init__" = some (some (.ref f9))) (i9 : PySem.W.isFn K (.ref f9) = true) (l9 : K.lookup f9 = some ⟨oc9, od9, .func (PySem.W.fnOf "__init__" "MailNet.__init__" (defArgs s_MailNet) (defBody s_MailNet) (defScope s_MailNet) .none kV9 dc9 pm9 an9 cd9 ct9), sl9⟩) (c9 : PySem.W.codeIn K cd9 "MailNet.__init__" = true) (k9 : PySem.W.keepIn K (.ref f9) = true)
    (pgMailNet : PySem.W.plainGet K CMailNet Str.empty = true) (hdMailNet : PySem.W.hasDictIn K CMailNet = true) (poMailNet : PySem.W.plainOver K CMailNet = true) (saMailNet : PySem.W.findIn K (.ref CMailNet) "__setattr__" = some (some (.builtin "object.__setattr__"))) (mkMailNet : PySem.W.makesIn K CMailNet = true) (kcMailNet : PySem.W.keepIn K (.ref CMailNet) = true)
    (nMailNetnet : PySem.W.findIn K (.ref CMailNet) "net" = some none)
    (nMailNetchannels : PySem.W.findIn K (.ref CMailNet) "channels" = some none)
    (nMailNetactions : PySem.W.findIn K (.ref CMailNet) "actions" = some none)
    (a10 : PySem.W.nsIn K mainGlobals "can_fire" = some (some (.ref f10))) (l10 : K.lookup f10 = some ⟨oc10, od10, .func (PySem.W.fnOf "can_fire" "can_fire" (defArgs s_can_fire) (defBody s_can_fire) (defScope s_can_fire) .none kV10 dc10 pm10 an10 cd10 ct10), sl10⟩) (c10 : PySem.W.codeIn K cd10 "can_fire" = true) (k10 : PySem.W.keepIn K (.ref f10) = true)
    (a11 : PySem.W.nsIn K mainGlobals "can_take" = some (some (.ref f11))) (l11 : K.lookup f11 = some ⟨oc11, od11, .func (PySem.W.fnOf "can_take" "can_take" (defArgs s_can_take) (defBody s_can_take) (defScope s_can_take) .none kV11 dc11 pm11 an11 cd11 ct11), sl11⟩) (c11 : PySem.W.codeIn K cd11 "can_take" = true) (k11 : PySem.W.keepIn K (.ref f11) = true)
    (a12 : PySem.W.nsIn K mainGlobals "fire_mail" = some (some (.ref f12))) (l12 : K.lookup f12 = some ⟨oc12, od12, .func (PySem.W.fnOf "fire_mail" "fire_mail" (defArgs s_fire_mail) (defBody s_fire_mail) (defScope s_fire_mail) .none kV12 dc12 pm12 an12 cd12 ct12), sl12⟩) (c12 : PySem.W.codeIn K cd12 "fire_mail" = true) (k12 : PySem.W.keepIn K (.ref f12) = true)
    (a13 : PySem.W.nsIn K mainGlobals "without" = some (some (.ref f13))) (l13 : K.lookup f13 = some ⟨oc13, od13, .func (PySem.W.fnOf "without" "without" (defArgs s_without) (defBody s_without) (defScope s_without) .none kV13 dc13 pm13 an13 cd13 ct13), sl13⟩) (c13 : PySem.W.codeIn K cd13 "without" = true) (k13 : PySem.W.keepIn K (.ref f13) = true)
    (a14 : PySem.W.nsIn K mainGlobals "take_mail" = some (some (.ref f14))) (l14 : K.lookup f14 = some ⟨oc14, od14, .func (PySem.W.fnOf "take_mail" "take_mail" (defArgs s_take_mail) (defBody s_take_mail) (defScope s_take_mail) .none kV14 dc14 pm14 an14 cd14 ct14), sl14⟩) (c14 : PySem.W.codeIn K cd14 "take_mail" = true) (k14 : PySem.W.keepIn K (.ref f14) = true)
    (a15 : PySem.W.nsIn K mainGlobals "_law_draws" = some (some (.ref f15))) (l15 : K.lookup f15 = some ⟨oc15, od15, .func (PySem.W.fnOf "_law_draws" "_law_draws" (defArgs s__law_draws) (defBody s__law_draws) (defScope s__law_draws) .none kV15 dc15 pm15 an15 cd15 ct15), sl15⟩) (c15 : PySem.W.codeIn K cd15 "_law_draws" = true) (k15 : PySem.W.keepIn K (.ref f15) = true)
    (a16 : PySem.W.nsIn K mainGlobals "_law_take" = some (some (.ref f16))) (l16 : K.lookup f16 = some ⟨oc16, od16, .func (PySem.W.fnOf "_law_take" "_law_take" (defArgs s__law_take) (defBody s__law_take) (defScope s__law_take) .none kV16 dc16 pm16 an16 cd16 ct16), sl16⟩) (c16 : PySem.W.codeIn K cd16 "_law_take" = true) (k16 : PySem.W.keepIn K (.ref f16) = true)
    (a17 : PySem.W.nsIn K mainGlobals "_law_marking" = some (some (.ref f17))) (l17 : K.lookup f17 = some ⟨oc17, od17, .func (PySem.W.fnOf "_law_marking" "_law_marking" (defArgs s__law_marking) (defBody s__law_marking) (defScope s__law_marking) .none kV17 dc17 pm17 an17 cd17 ct17), sl17⟩) (c17 : PySem.W.codeIn K cd17 "_law_marking" = true) (k17 : PySem.W.keepIn K (.ref f17) = true)
    (a18 : PySem.W.nsIn K mainGlobals "_law_covers" = some (some (.ref f18))) (l18 : K.lookup f18 = some ⟨oc18, od18, .func (PySem.W.fnOf "_law_covers" "_law_covers" (defArgs s__law_covers) (defBody s__law_covers) (defScope s__law_covers) .none kV18 dc18 pm18 an18 cd18 ct18), sl18⟩) (c18 : PySem.W.codeIn K cd18 "_law_covers" = true) (k18 : PySem.W.keepIn K (.ref f18) = true)
    (a19 : PySem.W.nsIn K mainGlobals "_law_transition" = some (some (.ref f19))) (l19 : K.lookup f19 = some ⟨oc19, od19, .func (PySem.W.fnOf "_law_transition" "_law_transition" (defArgs s__law_transition) (defBody s__law_transition) (defScope s__law_transition) .none kV19 dc19 pm19 an19 cd19 ct19), sl19⟩) (c19 : PySem.W.codeIn K cd19 "_law_transition" = true) (k19 : PySem.W.keepIn K (.ref f19) = true)
    (a20 : PySem.W.nsIn K mainGlobals "_law_net" = some (some (.ref f20))) (l20 : K.lookup f20 = some ⟨oc20, od20, .func (PySem.W.fnOf "_law_net" "_law_net" (defArgs s__law_net) (defBody s__law_net) (defScope s__law_net) .none kV20 dc20 pm20 an20 cd20 ct20), sl20⟩) (c20 : PySem.W.codeIn K cd20 "_law_net" = true) (k20 : PySem.W.keepIn K (.ref f20) = true)
    (a21 : PySem.W.nsIn K mainGlobals "_law_fire" = some (some (.ref f21))) (l21 : K.lookup f21 = some ⟨oc21, od21, .func (PySem.W.fnOf "_law_fire" "_law_fire" (defArgs s__law_fire) (defBody s__law_fire) (defScope s__law_fire) .none kV21 dc21 pm21 an21 cd21 ct21), sl21⟩) (c21 : PySem.W.codeIn K cd21 "_law_fire" = true) (k21 : PySem.W.keepIn K (.ref f21) = true)
    (a22 : PySem.W.nsIn K mainGlobals "_law_word" = some (some (.ref f22))) (l22 : K.lookup f22 = some ⟨oc22, od22, .func (PySem.W.fnOf "_law_word" "_law_word" (defArgs s__law_word) (defBody s__law_word) (defScope s__law_word) .none kV22 dc22 pm22 an22 cd22 ct22), sl22⟩) (c22 : PySem.W.codeIn K cd22 "_law_word" = true) (k22 : PySem.W.keepIn K (.ref f22) = true)
    (a23 : PySem.W.nsIn K mainGlobals "_law_config" = some (some (.ref f23))) (l23 : K.lookup f23 = some ⟨oc23, od23, .func (PySem.W.fnOf "_law_config" "_law_config" (defArgs s__law_config) (defBody s__law_config) (defScope s__law_config) .none kV23 dc23 pm23 an23 cd23 ct23), sl23⟩) (c23 : PySem.W.codeIn K cd23 "_law_config" = true) (k23 : PySem.W.keepIn K (.ref f23) = true)
    (a24 : PySem.W.nsIn K mainGlobals "_law_action" = some (some (.ref f24))) (l24 : K.lookup f24 = some ⟨oc24, od24, .func (PySem.W.fnOf "_law_action" "_law_action" (defArgs s__law_action) (defBody s__law_action) (defScope s__law_action) .none kV24 dc24 pm24 an24 cd24 ct24), sl24⟩) (c24 : PySem.W.codeIn K cd24 "_law_action" = true) (k24 : PySem.W.keepIn K (.ref f24) = true)
    (a25 : PySem.W.nsIn K mainGlobals "_law_mail_step" = some (some (.ref f25))) (l25 : K.lookup f25 = some ⟨oc25, od25, .func (PySem.W.fnOf "_law_mail_step" "_law_mail_step" (defArgs s__law_mail_step) (defBody s__law_mail_step) (defScope s__law_mail_step) .none kV25 dc25 pm25 an25 cd25 ct25), sl25⟩) (c25 : PySem.W.codeIn K cd25 "_law_mail_step" = true) (k25 : PySem.W.keepIn K (.ref f25) = true)
    (a26 : PySem.W.nsIn K mainGlobals "_law_outcome" = some (some (.ref f26))) (l26 : K.lookup f26 = some ⟨oc26, od26, .func (PySem.W.fnOf "_law_outcome" "_law_outcome" (defArgs s__law_outcome) (defBody s__law_outcome) (defScope s__law_outcome) .none kV26 dc26 pm26 an26 cd26 ct26), sl26⟩) (c26 : PySem.W.codeIn K cd26 "_law_outcome" = true) (k26 : PySem.W.keepIn K (.ref f26) = true)
    (a27 : PySem.W.nsIn K mainGlobals "_law_drawn_step" = some (some (.ref f27))) (l27 : K.lookup f27 = some ⟨oc27, od27, .func (PySem.W.fnOf "_law_drawn_step" "_law_drawn_step" (defArgs s__law_drawn_step) (defBody s__law_drawn_step) (defScope s__law_drawn_step) .none kV27 dc27 pm27 an27 cd27 ct27), sl27⟩) (c27 : PySem.W.codeIn K cd27 "_law_drawn_step" = true) (k27 : PySem.W.keepIn K (.ref f27) = true)
    (a28 : PySem.W.nsIn K mainGlobals "law" = some (some (.ref f28))) (l28 : K.lookup f28 = some ⟨oc28, od28, .func (PySem.W.fnOf "law" "law" (defArgs s_law) (defBody s_law) (defScope s_law) .none kV28 dc28 pm28 an28 cd28 ct28), sl28⟩) (c28 : PySem.W.codeIn K cd28 "law" = true) (k28 : PySem.W.keepIn K (.ref f28) = true)
    (zLOST : PySem.W.nsIn K mainGlobals "LOST" = some (some (.int (-1 : Int) tkLOST)))
    (zMOST_CHANNELS : PySem.W.nsIn K mainGlobals "MOST_CHANNELS" = some (some (.int (2 : Int) tkMOST_CHANNELS)))
    (zMOST_LETTERS : PySem.W.nsIn K mainGlobals "MOST_LETTERS" = some (some (.int (4 : Int) tkMOST_LETTERS)))
    (zMOST_PLACES : PySem.W.nsIn K mainGlobals "MOST_PLACES" = some (some (.int (12 : Int) tkMOST_PLACES)))
    (zMOST_TRANSITIONS : PySem.W.nsIn K mainGlobals "MOST_TRANSITIONS" = some (some (.int (24 : Int) tkMOST_TRANSITIONS)))
    (zMOST_WEIGHT : PySem.W.nsIn K mainGlobals "MOST_WEIGHT" = some (some (.int (9 : Int) tkMOST_WEIGHT)))
    (zbool : PySem.W.nsIn K mainGlobals "bool" = some none)
    (zint : PySem.W.nsIn K mainGlobals "int" = some none)
    (zisinstance : PySem.W.nsIn K mainGlobals "isinstance" = some none)
    (zlen : PySem.W.nsIn K mainGlobals "len" = some none)
    (zlist : PySem.W.nsIn K mainGlobals "list" = some none)
    (zrange : PySem.W.nsIn K mainGlobals "range" = some none)
    (zset : PySem.W.nsIn K mainGlobals "set" = some none)
    (ztuple : PySem.W.nsIn K mainGlobals "tuple" = some none)
    (aCNotEnabled : PySem.W.nsIn K mainGlobals "NotEnabled" = some (some (.ref CNotEnabled))) (kcNotEnabled : PySem.W.keepIn K (.ref CNotEnabled) = true) (ebNotEnabled : PySem.W.subIn K (.ref CNotEnabled) (.type "BaseException") = some true) (tyNotEnabled : PySem.W.typeIn K (.ref CNotEnabled) = some (.type "type")) (icNotEnabled : PySem.W.isClsIn K CNotEnabled = true) (seNotEnabled : PySem.W.subIn K (.ref CNotEnabled) (.ref CNotEnabled) = some true)
    (xlNotEnabled : K.lookup CNotEnabled = some (excClassObj nmNotEnabled qnNotEnabled CNotEnabled NNotEnabled bsNotEnabled [.ref CBNotEnabled, .type "ValueError", .type "Exception", .type "BaseException", .type "object"] true snNotEnabled subNotEnabled abNotEnabled colNotEnabled ddNotEnabled m0NotEnabled m1NotEnabled m2NotEnabled m3NotEnabled m5NotEnabled "ValueError.__new__"))
    (saNotEnabled : PySem.W.findIn K (.ref CNotEnabled) "__setattr__" = some (some (.builtin "object.__setattr__"))) (gaNotEnabled : PySem.W.findIn K (.ref CNotEnabled) "__getattribute__" = some (some (.builtin "BaseException.__getattribute__"))) (ggNotEnabled : PySem.W.findIn K (.ref CNotEnabled) "__getattr__" = some none) (nfNotEnabled : PySem.W.findIn K (.ref CNotEnabled) "position" = some none) (inNotEnabled : PySem.W.findIn K (.ref CNotEnabled) "__init__" = some (some (.ref fNotEnabled))) (tiNotEnabled : PySem.W.typeIn K (.ref fNotEnabled) = some (.type "function")) (hdNotEnabled : PySem.W.hasDictIn K CNotEnabled = true)
    (liNotEnabled : K.lookup fNotEnabled = some ⟨ocNotEnabled, odNotEnabled, .func (PySem.W.fnOf "__init__" "NotEnabled.__init__" (defArgs (inClass (topS 3) 0)) (defBody (inClass (topS 3) 0)) (defScope (inClass (topS 3) 0)) .none kVNotEnabled dcNotEnabled pmNotEnabled anNotEnabled cdNotEnabled ctNotEnabled), slNotEnabled⟩) (ciNotEnabled : PySem.W.codeIn K cdNotEnabled "NotEnabled.__init__" = true) (kiNotEnabled : PySem.W.keepIn K (.ref fNotEnabled) = true)
    : ∃ fd : FuncData, (∀ (s : Shared) (v : Value), BindsTo s fd ⟨[v], []⟩ [("_law_script", v)]) ∧ ∀ base : Heap, K.In base → base.Ns mainGlobals mg → FnOk l.prog w K mg base (L2.CX l.prog w) 7 fa fd ["_law_script"] (spP XR0 (acons (fz (tScr K tInt)) anil) (fz tBool) m_law) := by
  have e := hfa.symm.trans (PySem.W.mg_of X G a28)
  cases e
  have F1 := fun_mk (st := s_covers) l1 c1 k1
  have b1 := F1.binds (ps := ["first", "second"]) fun _ _ _ _ _ _ us hl => match us, hl with | [_, _], _ => rfl
  have Dcovers : DefAt K mg "covers" s_covers ["first", "second"] _ _ := ⟨F1, b1, PySem.W.mg_of X G a1⟩
  have F2 := fun_mk (st := s_all_from) l2 c2 k2
  have b2 := F2.binds (ps := ["numbers", "low", "high"]) fun _ _ _ _ _ _ us hl => match us, hl with | [_, _, _], _ => rfl
  have Dall_from : DefAt K mg "all_from" s_all_from ["numbers", "low", "high"] _ _ := ⟨F2, b2, PySem.W.mg_of X G a2⟩
  have F3 := fun_mk (st := s_fits) l3 c3 k3
  have b3 := F3.binds (ps := ["transition", "places"]) fun _ _ _ _ _ _ us hl => match us, hl with | [_, _], _ => rfl
  have Dfits : DefAt K mg "fits" s_fits ["transition", "places"] _ _ := ⟨F3, b3, PySem.W.mg_of X G a3⟩
  have F4 := fun_mk (st := s_Net) l4 c4 k4
  have b4 := F4.binds (ps := ["self", "places", "transitions"]) fun _ _ _ _ _ _ us hl => match us, hl with | [_, _, _], _ => rfl
  have ONet : IniAt K mg "Net" "Net.__init__" s_Net ["self", "places", "transitions"] CNet f4 _ := ⟨F4, b4, ⟨pgNet, hdNet, poNet, saNet⟩, ⟨mkNet, a4, i4, kcNet⟩, PySem.W.mg_of X G aCNet⟩
  have NNet : NANet K CNet := ⟨nNetplaces, nNettransitions⟩
  have F5 := fun_mk (st := s_enabled) l5 c5 k5
  have b5 := F5.binds (ps := ["net", "index", "marking"]) fun _ _ _ _ _ _ us hl => match us, hl with | [_, _, _], _ => rfl
  have Denabled : DefAt K mg "enabled" s_enabled ["net", "index", "marking"] _ _ := ⟨F5, b5, PySem.W.mg_of X G a5⟩
  have F6 := fun_mk (st := s_fire) l6 c6 k6
  have b6 := F6.binds (ps := ["net", "index", "marking"]) fun _ _ _ _ _ _ us hl => match us, hl with | [_, _, _], _ => rfl
  have Dfire : DefAt K mg "fire" s_fire ["net", "index", "marking"] _ _ := ⟨F6, b6, PySem.W.mg_of X G a6⟩
  have F7 := fun_mk (st := s_right_pairs) l7 c7 k7
  have b7 := F7.binds (ps := ["pairs", "channels"]) fun _ _ _ _ _ _ us hl => match us, hl with | [_, _], _ => rfl
  have Dright_pairs : DefAt K mg "right_pairs" s_right_pairs ["pairs", "channels"] _ _ := ⟨F7, b7, PySem.W.mg_of X G a7⟩
  have F8 := fun_mk (st := s_pairs_of) l8 c8 k8
  have b8 := F8.binds (ps := ["pairs"]) fun _ _ _ _ _ _ us hl => match us, hl with | [_], _ => rfl
  have Dpairs_of : DefAt K mg "pairs_of" s_pairs_of ["pairs"] _ _ := ⟨F8, b8, PySem.W.mg_of X G a8⟩
  have F9 := fun_mk (st := s_MailNet) l9 c9 k9
  have b9 := F9.binds (ps := ["self", "net", "channels", "actions"]) fun _ _ _ _ _ _ us hl => match us, hl with | [_, _, _, _], _ => rfl
  have OMailNet : IniAt K mg "MailNet" "MailNet.__init__" s_MailNet ["self", "net", "channels", "actions"] CMailNet f9 _ := ⟨F9, b9, ⟨pgMailNet, hdMailNet, poMailNet, saMailNet⟩, ⟨mkMailNet, a9, i9, kcMailNet⟩, PySem.W.mg_of X G aCMailNet⟩
  have NMailNet : NAMailNet K CMailNet := ⟨nMailNetnet, nMailNetchannels, nMailNetactions⟩
  have F10 := fun_mk (st := s_can_fire) l10 c10 k10
  have b10 := F10.binds (ps := ["mail", "config", "index"]) fun _ _ _ _ _ _ us hl => match us, hl with | [_, _, _], _ => rfl
  have Dcan_fire : DefAt K mg "can_fire" s_can_fire ["mail", "config", "index"] _ _ := ⟨F10, b10, PySem.W.mg_of X G a10⟩
  have F11 := fun_mk (st := s_can_take) l11 c11 k11
  have b11 := F11.binds (ps := ["mail", "config", "step"]) fun _ _ _ _ _ _ us hl => match us, hl with | [_, _, _], _ => rfl
  have Dcan_take : DefAt K mg "can_take" s_can_take ["mail", "config", "step"] _ _ := ⟨F11, b11, PySem.W.mg_of X G a11⟩
  have F12 := fun_mk (st := s_fire_mail) l12 c12 k12
  have b12 := F12.binds (ps := ["mail", "config", "index"]) fun _ _ _ _ _ _ us hl => match us, hl with | [_, _, _], _ => rfl
  have Dfire_mail : DefAt K mg "fire_mail" s_fire_mail ["mail", "config", "index"] _ _ := ⟨F12, b12, PySem.W.mg_of X G a12⟩
  have F13 := fun_mk (st := s_without) l13 c13 k13
  have b13 := F13.binds (ps := ["word", "position"]) fun _ _ _ _ _ _ us hl => match us, hl with | [_, _], _ => rfl
  have Dwithout : DefAt K mg "without" s_without ["word", "position"] _ _ := ⟨F13, b13, PySem.W.mg_of X G a13⟩
  have F14 := fun_mk (st := s_take_mail) l14 c14 k14
  have b14 := F14.binds (ps := ["mail", "config", "steps"]) fun _ _ _ _ _ _ us hl => match us, hl with | [_, _, _], _ => rfl
  have Dtake_mail : DefAt K mg "take_mail" s_take_mail ["mail", "config", "steps"] _ _ := ⟨F14, b14, PySem.W.mg_of X G a14⟩
  have F15 := fun_mk (st := s__law_draws) l15 c15 k15
  have b15 := F15.binds (ps := ["_law_script", "_law_count"]) fun _ _ _ _ _ _ us hl => match us, hl with | [_, _], _ => rfl
  have D_law_draws : DefAt K mg "_law_draws" s__law_draws ["_law_script", "_law_count"] _ _ := ⟨F15, b15, PySem.W.mg_of X G a15⟩
  have F16 := fun_mk (st := s__law_take) l16 c16 k16
  have b16 := F16.binds (ps := ["_law_draws_here", "_law_limit"]) fun _ _ _ _ _ _ us hl => match us, hl with | [_, _], _ => rfl
  have D_law_take : DefAt K mg "_law_take" s__law_take ["_law_draws_here", "_law_limit"] _ _ := ⟨F16, b16, PySem.W.mg_of X G a16⟩
  have F17 := fun_mk (st := s__law_marking) l17 c17 k17
  have b17 := F17.binds (ps := ["_law_draws_here", "_law_size", "_law_most"]) fun _ _ _ _ _ _ us hl => match us, hl with | [_, _, _], _ => rfl
  have D_law_marking : DefAt K mg "_law_marking" s__law_marking ["_law_draws_here", "_law_size", "_law_most"] _ _ := ⟨F17, b17, PySem.W.mg_of X G a17⟩
  have F18 := fun_mk (st := s__law_covers) l18 c18 k18
  have b18 := F18.binds (ps := ["_law_first", "_law_second"]) fun _ _ _ _ _ _ us hl => match us, hl with | [_, _], _ => rfl
  have D_law_covers : DefAt K mg "_law_covers" s__law_covers ["_law_first", "_law_second"] _ _ := ⟨F18, b18, PySem.W.mg_of X G a18⟩
  have F19 := fun_mk (st := s__law_transition) l19 c19 k19
  have b19 := F19.binds (ps := ["_law_draws_here", "_law_places", "_law_plain"]) fun _ _ _ _ _ _ us hl => match us, hl with | [_, _, _], _ => rfl
  have D_law_transition : DefAt K mg "_law_transition" s__law_transition ["_law_draws_here", "_law_places", "_law_plain"] _ _ := ⟨F19, b19, PySem.W.mg_of X G a19⟩
  have F20 := fun_mk (st := s__law_net) l20 c20 k20
  have b20 := F20.binds (ps := ["_law_draws_here", "_law_places", "_law_most", "_law_plain"]) fun _ _ _ _ _ _ us hl => match us, hl with | [_, _, _, _], _ => rfl
  have D_law_net : DefAt K mg "_law_net" s__law_net ["_law_draws_here", "_law_places", "_law_most", "_law_plain"] _ _ := ⟨F20, b20, PySem.W.mg_of X G a20⟩
  have F21 := fun_mk (st := s__law_fire) l21 c21 k21
  have b21 := F21.binds (ps := ["_law_transition_here", "_law_marking_here"]) fun _ _ _ _ _ _ us hl => match us, hl with | [_, _], _ => rfl
  have D_law_fire : DefAt K mg "_law_fire" s__law_fire ["_law_transition_here", "_law_marking_here"] _ _ := ⟨F21, b21, PySem.W.mg_of X G a21⟩
  have F22 := fun_mk (st := s__law_word) l22 c22 k22
  have b22 := F22.binds (ps := ["_law_draws_here", "_law_letters", "_law_most"]) fun _ _ _ _ _ _ us hl => match us, hl with | [_, _, _], _ => rfl
  have D_law_word : DefAt K mg "_law_word" s__law_word ["_law_draws_here", "_law_letters", "_law_most"] _ _ := ⟨F22, b22, PySem.W.mg_of X G a22⟩
  have F23 := fun_mk (st := s__law_config) l23 c23 k23
  have b23 := F23.binds (ps := ["_law_draws_here", "_law_places", "_law_channels", "_law_most", "_law_longest"]) fun _ _ _ _ _ _ us hl => match us, hl with | [_, _, _, _, _], _ => rfl
  have D_law_config : DefAt K mg "_law_config" s__law_config ["_law_draws_here", "_law_places", "_law_channels", "_law_most", "_law_longest"] _ _ := ⟨F23, b23, PySem.W.mg_of X G a23⟩
  have F24 := fun_mk (st := s__law_action) l24 c24 k24
  have b24 := F24.binds (ps := ["_law_draws_here", "_law_channels"]) fun _ _ _ _ _ _ us hl => match us, hl with | [_, _], _ => rfl
  have D_law_action : DefAt K mg "_law_action" s__law_action ["_law_draws_here", "_law_channels"] _ _ := ⟨F24, b24, PySem.W.mg_of X G a24⟩
  have F25 := fun_mk (st := s__law_mail_step) l25 c25 k25
  have b25 := F25.binds (ps := ["_law_transitions", "_law_actions", "_law_config_here", "_law_step"]) fun _ _ _ _ _ _ us hl => match us, hl with | [_, _, _, _], _ => rfl
  have D_law_mail_step : DefAt K mg "_law_mail_step" s__law_mail_step ["_law_transitions", "_law_actions", "_law_config_here", "_law_step"] _ _ := ⟨F25, b25, PySem.W.mg_of X G a25⟩
  have F26 := fun_mk (st := s__law_outcome) l26 c26 k26
  have b26 := F26.binds (ps := ["_law_mail", "_law_config_here", "_law_steps"]) fun _ _ _ _ _ _ us hl => match us, hl with | [_, _, _], _ => rfl
  have D_law_outcome : DefAt K mg "_law_outcome" s__law_outcome ["_law_mail", "_law_config_here", "_law_steps"] _ _ := ⟨F26, b26, PySem.W.mg_of X G a26⟩
  have F27 := fun_mk (st := s__law_drawn_step) l27 c27 k27
  have b27 := F27.binds (ps := ["_law_draws_here", "_law_transitions", "_law_channels"]) fun _ _ _ _ _ _ us hl => match us, hl with | [_, _, _], _ => rfl
  have D_law_drawn_step : DefAt K mg "_law_drawn_step" s__law_drawn_step ["_law_draws_here", "_law_transitions", "_law_channels"] _ _ := ⟨F27, b27, PySem.W.mg_of X G a27⟩
  have F28 := fun_mk (st := s_law) l28 c28 k28
  have b28 := F28.binds (ps := ["_law_script"]) fun _ _ _ _ _ _ us hl => match us, hl with | [_], _ => rfl
  have Dlaw : DefAt K mg "law" s_law ["_law_script"] _ _ := ⟨F28, b28, PySem.W.mg_of X G a28⟩
  have oNotEnabled : OexC K CNotEnabled := ⟨⟨_, _, _, _, _, _, _, _, _, _, _, _, _, _, _, xlNotEnabled, (show PySem.HandSPX.refsVE [.type "ValueError", .type "Exception", .type "BaseException", .type "object"] = true by decide +kernel)⟩, saNotEnabled, ebNotEnabled, tyNotEnabled, kcNotEnabled⟩
  have FNotEnabled := fun_mk (st := (inClass (topS 3) 0)) liNotEnabled ciNotEnabled kiNotEnabled
  have biNotEnabled := FNotEnabled.binds (ps := ["self", "position"]) fun _ _ _ _ _ _ us hl => match us, hl with | [_, _], _ => rfl
  have U : Uses mg := ⟨⟨_, PySem.W.mg_of X G zLOST⟩, ⟨_, PySem.W.mg_of X G zMOST_CHANNELS⟩, ⟨_, PySem.W.mg_of X G zMOST_LETTERS⟩, ⟨_, PySem.W.mg_of X G zMOST_PLACES⟩, ⟨_, PySem.W.mg_of X G zMOST_TRANSITIONS⟩, ⟨_, PySem.W.mg_of X G zMOST_WEIGHT⟩, PySem.W.mg_none_of X G zbool, PySem.W.mg_none_of X G zint, PySem.W.mg_none_of X G zisinstance, PySem.W.mg_none_of X G zlen, PySem.W.mg_none_of X G zlist, PySem.W.mg_none_of X G zrange, PySem.W.mg_none_of X G zset, PySem.W.mg_none_of X G ztuple⟩
  refine ⟨PySem.W.fnOf "law" "law" (defArgs s_law) (defBody s_law) (defScope s_law) .none kV28 dc28 pm28 an28 cd28 ct28, fun s v => .of_eq rfl, fun base _ _ => ?_⟩
  have X_NotEnabled : ExNo l.prog w K mg base "NotEnabled" CNotEnabled fNotEnabled := ⟨PySem.W.mg_of X G aCNotEnabled, oNotEnabled, inNotEnabled, tiNotEnabled, nfNotEnabled, ⟨gaNotEnabled, ggNotEnabled, ebNotEnabled, hdNotEnabled⟩, exm_me ebNotEnabled icNotEnabled tyNotEnabled seNotEnabled, _, _, biNotEnabled, ok_exc FNotEnabled ⟨rfl, rfl, rfl, by decide +kernel, rfl, by decide +kernel, by decide +kernel⟩ ⟨_, _, _, _, rfl⟩ oNotEnabled nfNotEnabled⟩
  have Gcovers := ok_covers (P := l.prog) (w := w) (base := base) Dcovers U 
  have Gall_from := ok_all_from (P := l.prog) (w := w) (base := base) Dall_from U 
  have Gfits := ok_fits (P := l.prog) (w := w) (base := base) Dfits U Dall_from Gall_from
  have INet := ok_Net (P := l.prog) (w := w) (base := base) ONet NNet U Dfits Gfits
  have Genabled := ok_enabled (P := l.prog) (w := w) (base := base) Denabled U ONet NNet INet Dcovers Gcovers
  have Gfire := ok_fire (P := l.prog) (w := w) (base := base) Dfire U ONet NNet INet Denabled Genabled X_NotEnabled
  have Gright_pairs := ok_right_pairs (P := l.prog) (w := w) (base := base) Dright_pairs U 
  have Gpairs_of := ok_pairs_of (P := l.prog) (w := w) (base := base) Dpairs_of U 
  have IMailNet := ok_MailNet (P := l.prog) (w := w) (base := base) OMailNet NMailNet U ONet NNet INet Dpairs_of Gpairs_of Dright_pairs Gright_pairs
  have Gcan_fire := ok_can_fire (P := l.prog) (w := w) (base := base) Dcan_fire U ONet NNet OMailNet NMailNet IMailNet Denabled Genabled
  have Gcan_take := ok_can_take (P := l.prog) (w := w) (base := base) Dcan_take U ONet NNet OMailNet NMailNet IMailNet Dcan_fire Gcan_fire
  have Gfire_mail := ok_fire_mail (P := l.prog) (w := w) (base := base) Dfire_mail U ONet NNet OMailNet NMailNet IMailNet Dfire Gfire
  have Gwithout := ok_without (P := l.prog) (w := w) (base := base) Dwithout U 
  have Gtake_mail := ok_take_mail (P := l.prog) (w := w) (base := base) Dtake_mail U ONet NNet OMailNet NMailNet Dcan_take Gcan_take Dfire_mail Gfire_mail Dwithout Gwithout X_NotEnabled
  have G_law_draws := ok__law_draws (P := l.prog) (w := w) (base := base) D_law_draws U 
  have G_law_take := ok__law_take (P := l.prog) (w := w) (base := base) D_law_take U 
  have G_law_marking := ok__law_marking (P := l.prog) (w := w) (base := base) D_law_marking U D_law_take G_law_take
  have G_law_covers := ok__law_covers (P := l.prog) (w := w) (base := base) D_law_covers U 
  have G_law_transition := ok__law_transition (P := l.prog) (w := w) (base := base) D_law_transition U D_law_take G_law_take
  have G_law_net := ok__law_net (P := l.prog) (w := w) (base := base) D_law_net U D_law_take G_law_take D_law_transition G_law_transition
  have G_law_fire := ok__law_fire (P := l.prog) (w := w) (base := base) D_law_fire U D_law_covers G_law_covers
  have G_law_word := ok__law_word (P := l.prog) (w := w) (base := base) D_law_word U D_law_take G_law_take
  have G_law_config := ok__law_config (P := l.prog) (w := w) (base := base) D_law_config U D_law_marking G_law_marking D_law_word G_law_word
  have G_law_action := ok__law_action (P := l.prog) (w := w) (base := base) D_law_action U D_law_take G_law_take
  have G_law_mail_step := ok__law_mail_step (P := l.prog) (w := w) (base := base) D_law_mail_step U D_law_fire G_law_fire
  have G_law_outcome := ok__law_outcome (P := l.prog) (w := w) (base := base) D_law_outcome U ONet NNet OMailNet NMailNet Dtake_mail Gtake_mail X_NotEnabled
  have G_law_drawn_step := ok__law_drawn_step (P := l.prog) (w := w) (base := base) D_law_drawn_step U D_law_take G_law_take
  have Glaw := ok_law (P := l.prog) (w := w) (base := base) Dlaw U ONet NNet INet OMailNet NMailNet IMailNet D_law_action G_law_action D_law_config G_law_config D_law_drawn_step G_law_drawn_step D_law_draws G_law_draws D_law_mail_step G_law_mail_step D_law_net G_law_net D_law_outcome G_law_outcome D_law_take G_law_take Dcan_take Gcan_take
  exact Glaw.imp fun vs H Q E h => spF_weak h
theorem all2_ints {F : Hp} : ∀ ns : List Int, All2 (tInt.R F) (ns.map V.int) ns
  | [] => trivial
  | _ :: ns => ⟨rfl, all2_ints ns⟩
theorem walk {l : PySem.W.OpenLaw} {q : Program} {loose : List Str} {XP : (Str → Option Value) → Heap → Prop} {YP : World → Heap → Prop} {d : DefRec} {K : Params → PySem.W.Frag} (hn : l.most = some 63) (hdf : d.params.defaults = [])
    (hY : ∀ (w : World) (h : Heap), YP w h → (K w.params).In h)
    (F : ∀ (w : World) (mg : Str → Option Value) (fa : Addr) (h : Heap), (K w.params).In h → h.Ns mainGlobals mg → mg d.name = some (.ref fa) →
      ∃ fd : FuncData, (∀ (s : Shared) (u : Value), BindsTo s fd ⟨[u], []⟩ [("_law_script", u)]) ∧ ∀ base : Heap, (K w.params).In base → base.Ns mainGlobals mg → FnOk l.prog w (K w.params) mg base (L2.CX l.prog w) 7 fa fd ["_law_script"] (spP XR0 (acons (fz (tScr (K w.params) tInt)) anil) (fz tBool) m_law)) :
    PySem.W.WalkO q loose XP YP l.row.toRowW d [] (fun f vs => PySem.call f vs) :=
  L2.walk_of (n := 63) (k := 7) (x := "_law_script") (CX := fun w => L2.CX l.prog w) (sp := fun w => spP XR0 (acons (fz (tScr (K w.params) tInt)) anil) (fz tBool) m_law) hn (by decide) hdf ⟨rfl, by decide, by decide⟩ hY F
    (fun w H a ns hl _ hS => ⟨(), (ns, ()), H, [], ⟨.ref a, [], [], [], rfl, rfl, ⟨rfl, a, ns.map V.int, rfl, hS, all2_ints ns⟩, rfl, rfl⟩, holds_nil (Same.refl _), by
      rw [law_true ns hl]
      exact fun v F' H' A' r _ => r.2⟩)
    fun w H s e s' h => by
      obtain ⟨_, _, _, _, _, _, _, _, _, _, _, _, _, _, _, w'⟩ := h
end W

open PySem PySem.W PyProof.Rows in
set_option maxRecDepth 100000 in
set_option maxHeartbeats 0 in
theorem PySem.Challenge.cw_covernets_k40_mail_steps_holds : PySem.Challenge.rw_covernets_k40_mail_steps.Holds := by
  w_on; o_law; k_head; (case hw => w_witness2)
  k_fill
  refine W.walk (l := PySem.Challenge.rw_covernets_k40_mail_steps) rfl rfl (fun w h Y => PySem.W.kIn_of Y) ?F
  case F =>
    intro w mg fa h KX G hmg
    refine' W.all_mk KX G hmg ?a1 ?l1 ?c1 ?k1 ?a2 ?l2 ?c2 ?k2 ?a3 ?l3 ?c3 ?k3 ?aCNet ?a4 ?i4 ?l4 ?c4 ?k4 ?pgNet ?hdNet ?poNet ?saNet ?mkNet ?kcNet ?nNetplaces ?nNettransitions ?a5 ?l5 ?c5 ?k5 ?a6 ?l6 ?c6 ?k6 ?a7 ?l7 ?c7 ?k7 ?a8 ?l8 ?c8 ?k8 ?aCMailNet ?a9 ?i9 ?l9 ?c9 ?k9 ?pgMailNet ?hdMailNet ?poMailNet ?saMailNet ?mkMailNet ?kcMailNet ?nMailNetnet ?nMailNetchannels ?nMailNetactions ?a10 ?l10 ?c10 ?k10 ?a11 ?l11 ?c11 ?k11 ?a12 ?l12 ?c12 ?k12 ?a13 ?l13 ?c13 ?k13 ?a14 ?l14 ?c14 ?k14 ?a15 ?l15 ?c15 ?k15 ?a16 ?l16 ?c16 ?k16 ?a17 ?l17 ?c17 ?k17 ?a18 ?l18 ?c18 ?k18 ?a19 ?l19 ?c19 ?k19 ?a20 ?l20 ?c20 ?k20 ?a21 ?l21 ?c21 ?k21 ?a22 ?l22 ?c22 ?k22 ?a23 ?l23 ?c23 ?k23 ?a24 ?l24 ?c24 ?k24 ?a25 ?l25 ?c25 ?k25 ?a26 ?l26 ?c26 ?k26 ?a27 ?l27 ?c27 ?k27 ?a28 ?l28 ?c28 ?k28 ?zLOST ?zMOST_CHANNELS ?zMOST_LETTERS ?zMOST_PLACES ?zMOST_TRANSITIONS ?zMOST_WEIGHT ?zbool ?zint ?zisinstance ?zlen ?zlist ?zrange ?zset ?ztuple ?aCNotEnabled ?kcNotEnabled ?ebNotEnabled ?tyNotEnabled ?icNotEnabled ?seNotEnabled ?xlNotEnabled ?saNotEnabled ?gaNotEnabled ?ggNotEnabled ?nfNotEnabled ?inNotEnabled ?tiNotEnabled ?hdNotEnabled ?liNotEnabled ?ciNotEnabled ?kiNotEnabled
    (case a1 => k_is)
    (case l1 => k_is)
    (case c1 => k_is)
    (case k1 => k_is)
    (case a2 => k_is)
    (case l2 => k_is)
    (case c2 => k_is)
    (case k2 => k_is)
    (case a3 => k_is)
    (case l3 => k_is)
    (case c3 => k_is)
    (case k3 => k_is)
    (case aCNet => k_is)
    (case a4 => k_is)
    (case i4 => k_is)
    (case l4 => k_is)
    (case c4 => k_is)
    (case k4 => k_is)
    (case pgNet => k_is)
    (case hdNet => k_is)
    (case poNet => k_is)
    (case saNet => k_is)
    (case mkNet => k_is)
    (case kcNet => k_is)
    (case nNetplaces => k_is)
    (case nNettransitions => k_is)
    (case a5 => k_is)
    (case l5 => k_is)
    (case c5 => k_is)
    (case k5 => k_is)
    (case a6 => k_is)
    (case l6 => k_is)
    (case c6 => k_is)
    (case k6 => k_is)
    (case a7 => k_is)
    (case l7 => k_is)
    (case c7 => k_is)
    (case k7 => k_is)
    (case a8 => k_is)
    (case l8 => k_is)
    (case c8 => k_is)
    (case k8 => k_is)
    (case aCMailNet => k_is)
    (case a9 => k_is)
    (case i9 => k_is)
    (case l9 => k_is)
    (case c9 => k_is)
    (case k9 => k_is)
    (case pgMailNet => k_is)
    (case hdMailNet => k_is)
    (case poMailNet => k_is)
    (case saMailNet => k_is)
    (case mkMailNet => k_is)
    (case kcMailNet => k_is)
    (case nMailNetnet => k_is)
    (case nMailNetchannels => k_is)
    (case nMailNetactions => k_is)
    (case a10 => k_is)
    (case l10 => k_is)
    (case c10 => k_is)
    (case k10 => k_is)
    (case a11 => k_is)
    (case l11 => k_is)
    (case c11 => k_is)
    (case k11 => k_is)
    (case a12 => k_is)
    (case l12 => k_is)
    (case c12 => k_is)
    (case k12 => k_is)
    (case a13 => k_is)
    (case l13 => k_is)
    (case c13 => k_is)
    (case k13 => k_is)
    (case a14 => k_is)
    (case l14 => k_is)
    (case c14 => k_is)
    (case k14 => k_is)
    (case a15 => k_is)
    (case l15 => k_is)
    (case c15 => k_is)
    (case k15 => k_is)
    (case a16 => k_is)
    (case l16 => k_is)
    (case c16 => k_is)
    (case k16 => k_is)
    (case a17 => k_is)
    (case l17 => k_is)
    (case c17 => k_is)
    (case k17 => k_is)
    (case a18 => k_is)
    (case l18 => k_is)
    (case c18 => k_is)
    (case k18 => k_is)
    (case a19 => k_is)
    (case l19 => k_is)
    (case c19 => k_is)
    (case k19 => k_is)
    (case a20 => k_is)
    (case l20 => k_is)
    (case c20 => k_is)
    (case k20 => k_is)
    (case a21 => k_is)
    (case l21 => k_is)
    (case c21 => k_is)
    (case k21 => k_is)
    (case a22 => k_is)
    (case l22 => k_is)
    (case c22 => k_is)
    (case k22 => k_is)
    (case a23 => k_is)
    (case l23 => k_is)
    (case c23 => k_is)
    (case k23 => k_is)
    (case a24 => k_is)
    (case l24 => k_is)
    (case c24 => k_is)
    (case k24 => k_is)
    (case a25 => k_is)
    (case l25 => k_is)
    (case c25 => k_is)
    (case k25 => k_is)
    (case a26 => k_is)
    (case l26 => k_is)
    (case c26 => k_is)
    (case k26 => k_is)
    (case a27 => k_is)
    (case l27 => k_is)
    (case c27 => k_is)
    (case k27 => k_is)
    (case a28 => k_is)
    (case l28 => k_is)
    (case c28 => k_is)
    (case k28 => k_is)
    (case zLOST => k_is)
    (case zMOST_CHANNELS => k_is)
    (case zMOST_LETTERS => k_is)
    (case zMOST_PLACES => k_is)
    (case zMOST_TRANSITIONS => k_is)
    (case zMOST_WEIGHT => k_is)
    (case zbool => k_is)
    (case zint => k_is)
    (case zisinstance => k_is)
    (case zlen => k_is)
    (case zlist => k_is)
    (case zrange => k_is)
    (case zset => k_is)
    (case ztuple => k_is)
    (case aCNotEnabled => k_is)
    (case kcNotEnabled => k_is)
    (case ebNotEnabled => k_is)
    (case tyNotEnabled => k_is)
    (case icNotEnabled => k_is)
    (case seNotEnabled => k_is)
    (case xlNotEnabled => k_is)
    (case saNotEnabled => k_is)
    (case gaNotEnabled => k_is)
    (case ggNotEnabled => k_is)
    (case nfNotEnabled => k_is)
    (case inNotEnabled => k_is)
    (case tiNotEnabled => k_is)
    (case hdNotEnabled => k_is)
    (case liNotEnabled => k_is)
    (case ciNotEnabled => k_is)
    (case kiNotEnabled => k_is)
