import PyProof.Rows.All
import Wide.All
import OpenK.AllK
import Wide.FinOn
import KE.KStateDown
import KE.DataFind
import HandS.ForMost
import HandS.Exc
import HandS.TryOnly
import HandS.WordsExc
import HandS.Defaults
import HandS.EndBits
import HandS.HeadEnd
import HandS.HeadHook1
import HandS.HeadHook2
import HandS.HeadHook3
import HandS.Head0
import HandS.Head1
import HandS.Head2
import HandS.Wide
import HandS.TupAny
import HandS.Walk
import HandS.Conv
import HandS.Deep
import HandS.IsInst
import HandS.Rev
import HandS.Zip
import HandS.NoneIn
import HandS.SortInts
import HandS.More
import HandS.Remove
import HandS.Style
import PySem.Challenge.RW_joinback_k76_whole_long_objects
set_option Elab.async false
set_option linter.all false
set_option maxRecDepth 100000
set_option maxHeartbeats 0
section
namespace JM
/-! ### who hangs together -/
section
variable {α : Type}
/-- joined by edges of a set of numbers -/
inductive Cn (ed : Nat → α × α) (R : Nat → Prop) : α → α → Prop
  | refl (a : α) : Cn ed R a a
  | fwd {a b : α} {k : Nat} : Cn ed R a b → R k → (ed k).1 = b → Cn ed R a (ed k).2
  | bwd {a b : α} {k : Nat} : Cn ed R a b → R k → (ed k).2 = b → Cn ed R a (ed k).1
variable {ed : Nat → α × α} {R S : Nat → Prop}
theorem Cn.mono {a b : α} (h : Cn ed R a b) (hs : ∀ k, R k → S k) : Cn ed S a b := by
  induction h with
  | refl => exact .refl _
  | fwd _ hk e ih => exact .fwd ih (hs _ hk) e
  | bwd _ hk e ih => exact .bwd ih (hs _ hk) e
theorem Cn.trans {a b c : α} (h1 : Cn ed R a b) (h2 : Cn ed R b c) : Cn ed R a c := by
  induction h2 with
  | refl => exact h1
  | fwd _ hk e ih => exact .fwd ih hk e
  | bwd _ hk e ih => exact .bwd ih hk e
theorem Cn.edge {k : Nat} (hk : R k) : Cn ed R (ed k).1 (ed k).2 := .fwd (.refl _) hk rfl
theorem Cn.edge' {k : Nat} (hk : R k) : Cn ed R (ed k).2 (ed k).1 := .bwd (.refl _) hk rfl
theorem Cn.symm {a b : α} (h : Cn ed R a b) : Cn ed R b a := by
  induction h with
  | refl => exact .refl _
  | fwd _ hk e ih => subst e; exact (Cn.edge' hk).trans ih
  | bwd _ hk e ih => subst e; exact (Cn.edge hk).trans ih
theorem Cn.congr {ed' : Nat → α × α} {a b : α} (h : Cn ed R a b) (he : ∀ k, R k → ed k = ed' k) : Cn ed' R a b := by
  induction h with
  | refl => exact .refl _
  | fwd _ hk e ih => rw [he _ hk] at e ⊢; exact .fwd ih hk e
  | bwd _ hk e ih => rw [he _ hk] at e ⊢; exact .bwd ih hk e
/-- one edge more -/
theorem Cn.add {e : Nat} {x y : α} (h : Cn ed (fun j => R j ∨ j = e) x y) :
    Cn ed R x y ∨ (Cn ed R x (ed e).1 ∧ Cn ed R (ed e).2 y) ∨ (Cn ed R x (ed e).2 ∧ Cn ed R (ed e).1 y) := by
  induction h with
  | refl => exact .inl (.refl _)
  | fwd _ hk q ih =>
    rcases hk with hk | hk
    · rcases ih with i | ⟨i, j⟩ | ⟨i, j⟩
      · exact .inl (.fwd i hk q)
      · exact .inr (.inl ⟨i, .fwd j hk q⟩)
      · exact .inr (.inr ⟨i, .fwd j hk q⟩)
    · subst hk
      subst q
      rcases ih with i | ⟨i, j⟩ | ⟨i, j⟩
      · exact .inr (.inl ⟨i, .refl _⟩)
      · exact .inr (.inl ⟨i, .refl _⟩)
      · exact .inl i
  | bwd _ hk q ih =>
    rcases hk with hk | hk
    · rcases ih with i | ⟨i, j⟩ | ⟨i, j⟩
      · exact .inl (.bwd i hk q)
      · exact .inr (.inl ⟨i, .bwd j hk q⟩)
      · exact .inr (.inr ⟨i, .bwd j hk q⟩)
    · subst hk
      subst q
      rcases ih with i | ⟨i, j⟩ | ⟨i, j⟩
      · exact .inr (.inr ⟨i, .refl _⟩)
      · exact .inl i
      · exact .inr (.inr ⟨i, .refl _⟩)
theorem Cn.bound {a b : α} (h : Cn ed R a b) : ∃ n, Cn ed (fun j => R j ∧ j < n) a b := by
  induction h with
  | refl => exact ⟨0, .refl _⟩
  | @fwd b' k _ hk e ih =>
    obtain ⟨n, q⟩ := ih
    exact ⟨max n (k + 1), .fwd (q.mono fun j ⟨h1, h2⟩ => ⟨h1, by omega⟩) ⟨hk, by omega⟩ e⟩
  | @bwd b' k _ hk e ih =>
    obtain ⟨n, q⟩ := ih
    exact ⟨max n (k + 1), .bwd (q.mono fun j ⟨h1, h2⟩ => ⟨h1, by omega⟩) ⟨hk, by omega⟩ e⟩
theorem least {P : Nat → Prop} (h : ∃ n, P n) : ∃ n, P n ∧ ∀ m, m < n → ¬ P m := by
  obtain ⟨n, hn⟩ := h
  induction n using Nat.strongRecOn with
  | _ n ih =>
    by_cases q : ∃ m, m < n ∧ P m
    · obtain ⟨m, h1, h2⟩ := q
      exact ih m h1 h2
    · exact ⟨n, hn, fun m h1 h2 => q ⟨m, h1, h2⟩⟩
/-- below a number -/
abbrev Bl (R : Nat → Prop) (k : Nat) : Nat → Prop := fun j => R j ∧ j < k
/-- k holds: its ends weren't together by those ahead -/
def Hd (ed : Nat → α × α) (R : Nat → Prop) (k : Nat) : Prop := R k ∧ ¬ Cn ed (Bl R k) (ed k).1 (ed k).2
/-- those that hold span -/
theorem span (k : Nat) : ∀ {x y : α}, Cn ed (Bl R k) x y → Cn ed (Bl (Hd ed R) k) x y := by
  induction k with
  | zero => exact fun h => h.mono fun j hj => absurd hj.2 (Nat.not_lt_zero _)
  | succ k ih =>
    intro x y h
    have up : ∀ {x y : α}, Cn ed (Bl (Hd ed R) k) x y → Cn ed (Bl (Hd ed R) (k + 1)) x y := fun h => h.mono fun j hj => ⟨hj.1, Nat.lt_succ_of_lt hj.2⟩
    have h2 : Cn ed (fun j => Bl R k j ∨ j = k) x y := h.mono fun j hj => by
      by_cases q : j = k
      · exact .inr q
      · exact .inl ⟨hj.1, by have := hj.2; omega⟩
    by_cases hk : R k
    · have ek : Cn ed (Bl (Hd ed R) (k + 1)) (ed k).1 (ed k).2 := by
        by_cases hh : Cn ed (Bl R k) (ed k).1 (ed k).2
        · exact up (ih hh)
        · exact .edge ⟨⟨hk, hh⟩, Nat.lt_succ_self k⟩
      rcases h2.add with i | ⟨i, j⟩ | ⟨i, j⟩
      · exact up (ih i)
      · exact ((up (ih i)).trans ek).trans (up (ih j))
      · exact ((up (ih i)).trans ek.symm).trans (up (ih j))
    · refine up (ih (h.mono fun j hj => ⟨hj.1, ?_⟩))
      have := hj.2
      rcases Nat.lt_succ_iff_lt_or_eq.mp this with q | q
      · exact q
      · exact absurd (q ▸ hj.1) hk
theorem span_all {x y : α} (h : Cn ed R x y) : Cn ed (Hd ed R) x y := by
  obtain ⟨n, q⟩ := h.bound
  exact (span n q).mono fun j hj => hj.1
theorem span_iff {x y : α} : Cn ed (Hd ed R) x y ↔ Cn ed R x y := ⟨fun h => h.mono fun _ q => q.1, span_all⟩
/-! ### one that holds taken out -/
/-- the others that hold -/
abbrev Wo (ed : Nat → α × α) (R : Nat → Prop) (e : Nat) : Nat → Prop := fun j => Hd ed R j ∧ j ≠ e
/-- each that holds is needed by those that hold -/
theorem bridge {e : Nat} (he : Hd ed R e) : ¬ Cn ed (Wo ed R e) (ed e).1 (ed e).2 := by
  intro h
  obtain ⟨n, hn, hm⟩ := least h.bound
  cases n with
  | zero =>
    exact he.2 (hn.mono fun j hj => absurd hj.2 (Nat.not_lt_zero _))
  | succ k =>
    have h0 : ¬ Cn ed (Bl (Wo ed R e) k) (ed e).1 (ed e).2 := hm k (Nat.lt_succ_self k)
    have h2 : Cn ed (fun j => Bl (Wo ed R e) k j ∨ j = k) (ed e).1 (ed e).2 := hn.mono fun j hj => by
      by_cases q : j = k
      · exact .inr q
      · exact .inl ⟨hj.1, by have := hj.2; omega⟩
    have hk : Wo ed R e k := by
      refine Classical.byContradiction fun q => h0 (hn.mono fun j hj => ⟨hj.1, ?_⟩)
      have := hj.2
      rcases Nat.lt_succ_iff_lt_or_eq.mp this with z | z
      · exact z
      · exact absurd (z ▸ hj.1) q
    have ek : e < k := by
      refine Classical.byContradiction fun q => he.2 (hn.mono fun j hj => ⟨hj.1.1.1, ?_⟩)
      have h3 := hj.1.2
      have h4 := hj.2
      have h5 := hk.2
      omega
    have lift : ∀ {x y : α}, Cn ed (Bl (Wo ed R e) k) x y → Cn ed (Bl R k) x y := fun h => h.mono fun j hj => ⟨hj.1.1.1, hj.2⟩
    have ee : Cn ed (Bl R k) (ed e).1 (ed e).2 := .edge ⟨he.1, ek⟩
    rcases h2.add with i | ⟨i, j⟩ | ⟨i, j⟩
    · exact h0 i
    · exact hk.1.2 (((lift i).symm.trans ee).trans (lift j).symm)
    · exact hk.1.2 ((lift j).trans (ee.symm.trans (lift i)))
/-- k's ends are on two sides where e is left out -/
def Cross (ed : Nat → α × α) (R : Nat → Prop) (e k : Nat) : Prop :=
  ¬ (Cn ed (Wo ed R e) (ed e).1 (ed k).1 ↔ Cn ed (Wo ed R e) (ed e).1 (ed k).2)
variable {e : Nat}
/-- one that doesn't cross: its ends are together by the others, as soon as they were -/
theorem still (he : Hd ed R e) {j : Nat} {x y : α} (hc : Cn ed (Wo ed R e) (ed e).1 x ↔ Cn ed (Wo ed R e) (ed e).1 y) (h : Cn ed (Bl R j) x y) : Cn ed (Bl (Wo ed R e) j) x y := by
  have h1 := span j h
  have h2 : Cn ed (fun i => Bl (Wo ed R e) j i ∨ i = e) x y := h1.mono fun i hi => by
    by_cases q : i = e
    · exact .inr q
    · exact .inl ⟨⟨hi.1, q⟩, hi.2⟩
  have up : ∀ {x y : α}, Cn ed (Bl (Wo ed R e) j) x y → Cn ed (Wo ed R e) x y := fun h => h.mono fun _ q => q.1
  rcases h2.add with i | ⟨i, k⟩ | ⟨i, k⟩
  · exact i
  · have q : Cn ed (Wo ed R e) (ed e).1 y := hc.mp (up i).symm
    exact absurd (q.trans (up k).symm) (bridge he)
  · have q : Cn ed (Wo ed R e) (ed e).1 x := hc.mpr (up k)
    exact absurd (q.trans (up i)) (bridge he)
/-- one that crosses closes the gap -/
theorem closes (he : Hd ed R e) {f : Nat} (hR : R f) (hf : f ≠ e) (hc : Cross ed R e f) : e < f ∧ Cn ed (fun j => (R j ∧ j ≠ e) ∧ j < f + 1) (ed e).1 (ed e).2 := by
  have up : ∀ {k : Nat} {x y : α}, Cn ed (Bl (Wo ed R e) k) x y → Cn ed (Wo ed R e) x y := fun h => h.mono fun _ q => q.1
  have nf : ¬ Hd ed R f := fun q => hc ⟨fun z => z.trans (.edge ⟨q, hf⟩), fun z => z.trans (.edge' ⟨q, hf⟩)⟩
  have h0 : Cn ed (Bl R f) (ed f).1 (ed f).2 := Classical.byContradiction fun q => nf ⟨hR, q⟩
  have h1 := span f h0
  have h2 : Cn ed (fun i => Bl (Wo ed R e) f i ∨ i = e) (ed f).1 (ed f).2 := h1.mono fun i hi => by
    by_cases q : i = e
    · exact .inr q
    · exact .inl ⟨⟨hi.1, q⟩, hi.2⟩
  have nn : ¬ Cn ed (Bl (Wo ed R e) f) (ed f).1 (ed f).2 := fun z => hc ⟨fun q => q.trans (up z), fun q => q.trans (up z).symm⟩
  have ef : e < f := by
    refine Classical.byContradiction fun q => nn (h1.mono fun i hi => ⟨⟨hi.1, ?_⟩, hi.2⟩)
    have := hi.2
    omega
  have dn : ∀ {x y : α}, Cn ed (Bl (Wo ed R e) f) x y → Cn ed (fun j => (R j ∧ j ≠ e) ∧ j < f + 1) x y := fun h => h.mono fun i hi => ⟨⟨hi.1.1.1, hi.1.2⟩, Nat.lt_succ_of_lt hi.2⟩
  have ff : Cn ed (fun j => (R j ∧ j ≠ e) ∧ j < f + 1) (ed f).1 (ed f).2 := .edge ⟨⟨hR, hf⟩, Nat.lt_succ_self f⟩
  refine ⟨ef, ?_⟩
  rcases h2.add with i | ⟨i, k⟩ | ⟨i, k⟩
  · exact absurd i nn
  · exact ((dn i).symm.trans ff).trans (dn k).symm
  · exact (dn k).trans (ff.symm.trans (dn i))
/-- what holds where e is left out, by the least one that crosses -/
theorem taken (he : Hd ed R e) (k : Nat) : Hd ed (fun j => R j ∧ j ≠ e) k ↔ (Hd ed R k ∧ k ≠ e) ∨ (R k ∧ k ≠ e ∧ Cross ed R e k ∧ ∀ j, R j → j ≠ e → j < k → ¬ Cross ed R e j) := by
  have wo : ∀ {n : Nat} {x y : α}, Cn ed (Bl (Wo ed R e) n) x y → Cn ed (Bl (fun j => R j ∧ j ≠ e) n) x y := fun h => h.mono fun i hi => ⟨⟨hi.1.1.1, hi.1.2⟩, hi.2⟩
  have dn : ∀ {n : Nat} {x y : α}, Cn ed (Bl (fun j => R j ∧ j ≠ e) n) x y → Cn ed (Bl R n) x y := fun h => h.mono fun i hi => ⟨hi.1.1, hi.2⟩
  have up : ∀ {k : Nat} {x y : α}, Cn ed (Bl (Wo ed R e) k) x y → Cn ed (Wo ed R e) x y := fun h => h.mono fun _ q => q.1
  constructor
  · rintro ⟨⟨hR, hne⟩, hn⟩
    by_cases hh : Hd ed R k
    · exact .inl ⟨hh, hne⟩
    · refine .inr ⟨hR, hne, ?_, ?_⟩
      · intro hc
        have h0 : Cn ed (Bl R k) (ed k).1 (ed k).2 := Classical.byContradiction fun q => hh ⟨hR, q⟩
        exact hn (wo (still he hc h0))
      · intro j hj hje hjk hc
        obtain ⟨ej, cl⟩ := closes he hj hje hc
        have cl' : Cn ed (Bl (fun j => R j ∧ j ≠ e) k) (ed e).1 (ed e).2 := cl.mono fun i hi => ⟨hi.1, by have := hi.2; omega⟩
        have h0 : Cn ed (Bl R k) (ed k).1 (ed k).2 := Classical.byContradiction fun q => hh ⟨hR, q⟩
        have h2 : Cn ed (fun i => Bl (fun j => R j ∧ j ≠ e) k i ∨ i = e) (ed k).1 (ed k).2 := h0.mono fun i hi => by
          by_cases q : i = e
          · exact .inr q
          · exact .inl ⟨⟨hi.1, q⟩, hi.2⟩
        rcases h2.add with i | ⟨i, l⟩ | ⟨i, l⟩
        · exact hn i
        · exact hn ((i.trans cl').trans l)
        · exact hn ((i.trans cl'.symm).trans l)
  · rintro (⟨hh, hne⟩ | ⟨hR, hne, hc, hl⟩)
    · exact ⟨⟨hh.1, hne⟩, fun z => hh.2 (dn z)⟩
    · refine ⟨⟨hR, hne⟩, fun z => hc ?_⟩
      -- nothing ahead crosses: all ahead is spanned by the others that hold
      have all : ∀ {x y : α}, Cn ed (Bl (fun j => R j ∧ j ≠ e) k) x y → Cn ed (Wo ed R e) x y := by
        intro x y h
        have ek : ∀ {i : Nat}, Bl (fun j => R j ∧ j ≠ e) k i → Cn ed (Wo ed R e) (ed i).1 (ed i).2 := by
          intro i hi
          by_cases hh : Hd ed R i
          · exact .edge ⟨hh, hi.1.2⟩
          · have h0 : Cn ed (Bl R i) (ed i).1 (ed i).2 := Classical.byContradiction fun q => hh ⟨hi.1.1, q⟩
            have nc := hl i hi.1.1 hi.1.2 hi.2
            exact up (still he (Classical.byContradiction fun q => nc q) h0)
        induction h with
        | refl => exact .refl _
        | fwd _ hk q ih => subst q; exact ih.trans (ek hk)
        | bwd _ hk q ih => subst q; exact ih.trans (ek hk).symm
      have q := all z
      exact ⟨fun a => a.trans q, fun a => a.trans q.symm⟩
/-- one that doesn't hold taken out -/
theorem spare (he : ¬ Hd ed R e) (k : Nat) : Hd ed (fun j => R j ∧ j ≠ e) k ↔ Hd ed R k := by
  have key : ∀ {n : Nat} {x y : α}, Cn ed (Bl R n) x y → Cn ed (Bl (fun j => R j ∧ j ≠ e) n) x y := fun h =>
    (span _ h).mono fun i hi => ⟨⟨hi.1.1, fun q => he (q ▸ hi.1)⟩, hi.2⟩
  have dn : ∀ {n : Nat} {x y : α}, Cn ed (Bl (fun j => R j ∧ j ≠ e) n) x y → Cn ed (Bl R n) x y := fun h => h.mono fun i hi => ⟨hi.1.1, hi.2⟩
  constructor
  · rintro ⟨⟨hR, _⟩, hn⟩
    exact ⟨hR, fun z => hn (key z)⟩
  · intro hh
    exact ⟨⟨hh.1, fun q => he (q ▸ hh)⟩, fun z => hh.2 (dn z)⟩
end
end JM
end
section
namespace JM
/-! ### labels, those that hold -/
section
variable {α : Type} [DecidableEq α]
def relab (f : α → α) (a b : α) : α → α := fun n => if f n = f b then f a else f n
def lstp (s : (α → α) × List Nat) (r : Nat × α × α) : (α → α) × List Nat :=
  if s.1 r.2.1 = s.1 r.2.2 then s else (relab s.1 r.2.1 r.2.2, s.2 ++ [r.1])
def labs (rows : List (Nat × α × α)) : (α → α) × List Nat := rows.foldl lstp (id, [])
theorem labs_snoc (rows : List (Nat × α × α)) (r : Nat × α × α) : labs (rows ++ [r]) = lstp (labs rows) r := by
  unfold labs; rw [List.foldl_append]; rfl
/-- induction from the end -/
theorem snocInd {β : Type} {P : List β → Prop} (h0 : P []) (h1 : ∀ l x, P l → P (l ++ [x])) (l : List β) : P l := by
  have : ∀ l : List β, P l.reverse := by
    intro l
    induction l with
    | nil => exact h0
    | cons a r ih => rw [List.reverse_cons]; exact h1 _ _ ih
  have q := this l.reverse
  rwa [List.reverse_reverse] at q
variable {ed : Nat → α × α}
theorem relab_iff {f : α → α} {a b x y : α} (n : f a ≠ f b) : relab f a b x = relab f a b y ↔ f x = f y ∨ (f x = f a ∧ f y = f b) ∨ (f x = f b ∧ f y = f a) := by
  unfold relab
  by_cases h1 : f x = f b <;> by_cases h2 : f y = f b
  · rw [if_pos h1, if_pos h2]
    exact ⟨fun _ => .inl (h1.trans h2.symm), fun _ => rfl⟩
  · rw [if_pos h1, if_neg h2]
    constructor
    · intro q; exact .inr (.inr ⟨h1, q.symm⟩)
    · rintro (q | ⟨_, q⟩ | ⟨_, q⟩)
      · exact absurd (q.symm.trans h1) h2
      · exact absurd q h2
      · exact q.symm
  · rw [if_neg h1, if_pos h2]
    constructor
    · intro q; exact .inr (.inl ⟨q, h2⟩)
    · rintro (q | ⟨q, _⟩ | ⟨q, _⟩)
      · exact absurd (q.trans h2) h1
      · exact q
      · exact absurd q h1
  · rw [if_neg h1, if_neg h2]
    constructor
    · intro q; exact .inl q
    · rintro (q | ⟨_, q⟩ | ⟨q, _⟩)
      · exact q
      · exact absurd q h2
      · exact absurd q h1
theorem labs_cn (rows : List (Nat × α × α)) : (∀ r ∈ rows, ed r.1 = r.2) → ∀ x y : α, (labs rows).1 x = (labs rows).1 y ↔ Cn ed (fun n => n ∈ rows.map (·.1)) x y := by
  refine snocInd (P := fun rows => (∀ r ∈ rows, ed r.1 = r.2) → ∀ x y : α, (labs rows).1 x = (labs rows).1 y ↔ Cn ed (fun n => n ∈ rows.map (·.1)) x y) ?_ ?_ rows
  · intro _ x y
    constructor
    · intro h; have : x = y := h; subst this; exact .refl _
    · intro h
      have : ∀ {a b : α}, Cn ed (fun n => n ∈ ([] : List (Nat × α × α)).map (·.1)) a b → a = b := by
        intro a b h
        cases h with
        | refl => rfl
        | fwd _ hk _ => exact absurd hk (by simp)
        | bwd _ hk _ => exact absurd hk (by simp)
      rw [this h]
  · intro l r ih he x y
    have ih := ih fun q hq => he q (List.mem_append_left _ hq)
    have hr : ed r.1 = r.2 := he r (by simp)
    have split : ∀ {x y : α}, Cn ed (fun n => n ∈ (l ++ [r]).map (·.1)) x y → Cn ed (fun n => n ∈ l.map (·.1) ∨ n = r.1) x y := fun h => h.mono fun k hk => by
      simpa [List.map_append, List.mem_append] using hk
    have up : ∀ {x y : α}, Cn ed (fun n => n ∈ l.map (·.1)) x y → Cn ed (fun n => n ∈ (l ++ [r]).map (·.1)) x y := fun h => h.mono fun k hk => by
      rw [List.map_append]; exact List.mem_append_left _ hk
    have rr : Cn ed (fun n => n ∈ (l ++ [r]).map (·.1)) r.2.1 r.2.2 := by
      have := Cn.edge (ed := ed) (R := fun n => n ∈ (l ++ [r]).map (·.1)) (k := r.1) (by simp)
      rwa [hr] at this
    rw [labs_snoc]
    unfold lstp
    by_cases hf : (labs l).1 r.2.1 = (labs l).1 r.2.2
    · rw [if_pos hf, ih]
      constructor
      · exact up
      · intro h
        have hab := (ih _ _).mp hf
        rcases (split h).add with i | ⟨i, j⟩ | ⟨i, j⟩
        · exact i
        · rw [hr] at i j; exact (i.trans hab).trans j
        · rw [hr] at i j; exact (i.trans hab.symm).trans j
    · rw [if_neg hf]
      show relab _ _ _ x = relab _ _ _ y ↔ _
      rw [relab_iff hf, ih, ih, ih, ih, ih]
      constructor
      · rintro (q | ⟨q1, q2⟩ | ⟨q1, q2⟩)
        · exact up q
        · exact ((up q1).trans rr).trans (up q2).symm
        · exact ((up q1).trans rr.symm).trans (up q2).symm
      · intro h
        rcases (split h).add with i | ⟨i, j⟩ | ⟨i, j⟩
        · exact .inl i
        · rw [hr] at i j; exact .inr (.inl ⟨i, j.symm⟩)
        · rw [hr] at i j; exact .inr (.inr ⟨i, j.symm⟩)
theorem labs_hd (rows : List (Nat × α × α)) : (∀ r ∈ rows, ed r.1 = r.2) → (rows.map (·.1)).Pairwise (· < ·) → ∀ k, k ∈ (labs rows).2 ↔ Hd ed (fun n => n ∈ rows.map (·.1)) k := by
  refine snocInd (P := fun rows => (∀ r ∈ rows, ed r.1 = r.2) → (rows.map (·.1)).Pairwise (· < ·) → ∀ k, k ∈ (labs rows).2 ↔ Hd ed (fun n => n ∈ rows.map (·.1)) k) ?_ ?_ rows
  · intro _ _ k
    constructor
    · intro h; exact absurd h (by simp [labs])
    · intro h; exact absurd h.1 (by simp)
  · intro l r ih he hp k
    have he' : ∀ q ∈ l, ed q.1 = q.2 := fun q hq => he q (List.mem_append_left _ hq)
    have hr : ed r.1 = r.2 := he r (by simp)
    rw [List.map_append, List.pairwise_append] at hp
    have ih := ih he' hp.1
    have lt : ∀ n ∈ l.map (·.1), n < r.1 := fun n hn => hp.2.2 n hn r.1 (by simp)
    have lo : ∀ {k : Nat}, k ∈ l.map (·.1) → (Hd ed (fun n => n ∈ (l ++ [r]).map (·.1)) k ↔ Hd ed (fun n => n ∈ l.map (·.1)) k) := by
      intro k hk
      have e : ∀ j, Bl (fun n => n ∈ (l ++ [r]).map (·.1)) k j ↔ Bl (fun n => n ∈ l.map (·.1)) k j := by
        intro j
        constructor
        · rintro ⟨h1, h2⟩
          refine ⟨?_, h2⟩
          have h3 : j ∈ l.map (·.1) ∨ j = r.1 := by simpa [List.map_append, List.mem_append] using h1
          rcases h3 with h3 | h3
          · exact h3
          · have := lt k hk; omega
        · rintro ⟨h1, h2⟩
          exact ⟨by rw [List.map_append]; exact List.mem_append_left _ h1, h2⟩
      constructor
      · rintro ⟨_, h2⟩; exact ⟨hk, fun z => h2 (z.mono fun j hj => (e j).mpr hj)⟩
      · rintro ⟨_, h2⟩; exact ⟨by rw [List.map_append]; exact List.mem_append_left _ hk, fun z => h2 (z.mono fun j hj => (e j).mp hj)⟩
    have hi : Hd ed (fun n => n ∈ (l ++ [r]).map (·.1)) r.1 ↔ (labs l).1 r.2.1 ≠ (labs l).1 r.2.2 := by
      have e : ∀ j, Bl (fun n => n ∈ (l ++ [r]).map (·.1)) r.1 j ↔ j ∈ l.map (·.1) := by
        intro j
        constructor
        · rintro ⟨h1, h2⟩
          have h3 : j ∈ l.map (·.1) ∨ j = r.1 := by simpa [List.map_append, List.mem_append] using h1
          rcases h3 with h3 | h3
          · exact h3
          · omega
        · intro h1
          exact ⟨by rw [List.map_append]; exact List.mem_append_left _ h1, lt j h1⟩
      constructor
      · rintro ⟨_, h2⟩ z
        refine h2 (((labs_cn l he' _ _).mp z).mono (fun j hj => (e j).mpr hj) |> fun q => ?_)
        rw [hr]; exact q
      · intro h
        refine ⟨by simp, fun z => h ((labs_cn l he' _ _).mpr ?_)⟩
        have q := z.mono fun j hj => (e j).mp hj
        rwa [hr] at q
    rw [labs_snoc]
    unfold lstp
    by_cases hf : (labs l).1 r.2.1 = (labs l).1 r.2.2
    · rw [if_pos hf, ih]
      constructor
      · intro h; exact (lo h.1).mpr h
      · intro h
        have h3 : k ∈ l.map (·.1) ∨ k = r.1 := by simpa [List.map_append, List.mem_append] using h.1
        rcases h3 with h3 | h3
        · exact (lo h3).mp h
        · subst h3; exact absurd hf (hi.mp h)
    · rw [if_neg hf]
      show k ∈ (labs l).2 ++ [r.1] ↔ _
      rw [List.mem_append, ih]
      constructor
      · rintro (h | h)
        · exact (lo h.1).mpr h
        · have : k = r.1 := by simpa using h
          subst this; exact hi.mpr hf
      · intro h
        have h3 : k ∈ l.map (·.1) ∨ k = r.1 := by simpa [List.map_append, List.mem_append] using h.1
        rcases h3 with h3 | h3
        · exact .inl ((lo h3).mp h)
        · exact .inr (by simp [h3])
theorem labs_sub (rows : List (Nat × α × α)) : (labs rows).2.Sublist (rows.map (·.1)) := by
  refine snocInd (P := fun rows => (labs rows).2.Sublist (rows.map (·.1))) ?_ ?_ rows
  · exact List.Sublist.refl _
  · intro l r ih
    rw [labs_snoc, List.map_append]
    unfold lstp
    by_cases hf : (labs l).1 r.2.1 = (labs l).1 r.2.2
    · rw [if_pos hf]; exact ih.trans (List.sublist_append_left _ _)
    · rw [if_neg hf]; exact ih.append (List.Sublist.refl _)
end
/-! two rising lists of the same numbers -/
theorem rising_eq : ∀ {l m : List Nat}, l.Pairwise (· < ·) → m.Pairwise (· < ·) → (∀ k, k ∈ l ↔ k ∈ m) → l = m
  | [], [], _, _, _ => rfl
  | [], b :: m, _, _, h => absurd ((h b).mpr List.mem_cons_self) (by simp)
  | a :: l, [], _, _, h => absurd ((h a).mp List.mem_cons_self) (by simp)
  | a :: l, b :: m, hl, hm, h => by
    rw [List.pairwise_cons] at hl hm
    have e : a = b := by
      have h1 := (h a).mp List.mem_cons_self
      have h2 := (h b).mpr List.mem_cons_self
      rcases List.mem_cons.mp h1 with q | q
      · exact q
      · rcases List.mem_cons.mp h2 with z | z
        · exact z.symm
        · have := hl.1 _ z; have := hm.1 _ q; omega
    subst e
    rw [rising_eq hl.2 hm.2 fun k => ?_]
    constructor
    · intro hk
      have := (h k).mp (List.mem_cons_of_mem _ hk)
      rcases List.mem_cons.mp this with z | z
      · have := hl.1 _ hk; omega
      · exact z
    · intro hk
      have := (h k).mpr (List.mem_cons_of_mem _ hk)
      rcases List.mem_cons.mp this with z | z
      · have := hm.1 _ hk; omega
      · exact z
/-! ### ways found -/
section
variable {α : Type}
/-- what the walk finds: each name with its way, each behind the one it came from -/
inductive Grow (E : α → List (Nat × Int × α)) (x : α) : List (α × List (Nat × Int)) → Prop
  | start : Grow E x [(x, [])]
  | more {L : List (α × List (Nat × Int))} {z y : α} {wz : List (Nat × Int)} {n : Nat} {s : Int} : Grow E x L → (z, wz) ∈ L → (n, s, y) ∈ E z → ¬ y ∈ L.map (·.1) → Grow E x (L ++ [(y, wz ++ [(n, s)])])
/-- the edges of the joinings of a set of numbers -/
def EdgesOf (ed : Nat → α × α) (R : Nat → Prop) (E : α → List (Nat × Int × α)) : Prop :=
  ∀ z n s y, (n, s, y) ∈ E z ↔ R n ∧ ((s = 1 ∧ ed n = (z, y)) ∨ (s = -1 ∧ ed n = (y, z)))
variable {ed : Nat → α × α} {R : Nat → Prop} {E : α → List (Nat × Int × α)} {x : α} {L : List (α × List (Nat × Int))}
theorem Grow.head (g : Grow E x L) : (x, []) ∈ L := by
  induction g with
  | start => simp
  | more _ _ _ _ ih => exact List.mem_append_left _ ih
theorem Grow.nodup (g : Grow E x L) : (L.map (·.1)).Nodup := by
  induction g with
  | start => simp
  | more _ _ _ hy ih =>
    rw [List.map_append, List.nodup_append]
    refine ⟨ih, by simp, fun a ha b hb e => ?_⟩
    have q := List.mem_singleton.mp hb
    rw [e, q] at ha
    exact hy ha
theorem Grow.cn (hE : EdgesOf ed R E) (g : Grow E x L) : ∀ p ∈ L, Cn ed R x p.1 := by
  induction g with
  | start => intro p hp; have : p = (x, []) := by simpa using hp
             subst this; exact .refl _
  | @more L z y wz n s _ hz he _ ih =>
    intro p hp
    rcases List.mem_append.mp hp with q | q
    · exact ih p q
    · have : p = (y, wz ++ [(n, s)]) := by simpa using q
      subst this
      obtain ⟨hR, h⟩ := (hE _ _ _ _).mp he
      have hc := ih _ hz
      rcases h with ⟨_, h⟩ | ⟨_, h⟩
      · have q := Cn.fwd hc hR (by rw [h]); rwa [h] at q
      · have q := Cn.bwd hc hR (by rw [h]); rwa [h] at q
theorem Grow.all (hE : EdgesOf ed R E) (g : Grow E x L) (hc : ∀ z ∈ L.map (·.1), ∀ e ∈ E z, e.2.2 ∈ L.map (·.1)) {y : α} (h : Cn ed R x y) : y ∈ L.map (·.1) := by
  induction h with
  | refl => exact List.mem_map.mpr ⟨_, g.head, rfl⟩
  | @fwd b k _ hk e ih => exact hc _ ih (k, 1, (ed k).2) ((hE _ _ _ _).mpr ⟨hk, .inl ⟨rfl, by rw [← e]⟩⟩)
  | @bwd b k _ hk e ih => exact hc _ ih (k, -1, (ed k).1) ((hE _ _ _ _).mpr ⟨hk, .inr ⟨rfl, by rw [← e]⟩⟩)
theorem Grow.iff (hE : EdgesOf ed R E) (g : Grow E x L) (hc : ∀ z ∈ L.map (·.1), ∀ e ∈ E z, e.2.2 ∈ L.map (·.1)) {y : α} : y ∈ L.map (·.1) ↔ Cn ed R x y := by
  constructor
  · intro h
    obtain ⟨p, hp, e⟩ := List.mem_map.mp h
    subst e
    exact g.cn hE p hp
  · exact g.all hE hc
/-- a way's steps -/
def wsum (st : Nat → Int) (w : List (Nat × Int)) : Int := (w.map fun p => p.2 * st p.1).sum
theorem wsum_snoc (st : Nat → Int) (w : List (Nat × Int)) (p : Nat × Int) : wsum st (w ++ [p]) = wsum st w + p.2 * st p.1 := by
  unfold wsum; rw [List.map_append, List.sum_append]; simp
theorem Grow.steps (hE : EdgesOf ed R E) (g : Grow E x L) {st : Nat → Int} {sp : α → Int} {t : Int} (hs : ∀ n, R n → (st n - (sp (ed n).2 - sp (ed n).1)) % t = 0) :
    ∀ p ∈ L, (wsum st p.2 - (sp p.1 - sp x)) % t = 0 := by
  induction g with
  | start => intro p hp; have : p = (x, []) := by simpa using hp
             subst this; simp [wsum]
  | @more L z y wz n s _ hz he _ ih =>
    intro p hp
    rcases List.mem_append.mp hp with q | q
    · exact ih p q
    · have : p = (y, wz ++ [(n, s)]) := by simpa using q
      subst this
      obtain ⟨hR, h⟩ := (hE _ _ _ _).mp he
      have h1 := Int.dvd_of_emod_eq_zero (ih _ hz)
      have h2 := Int.dvd_of_emod_eq_zero (hs n hR)
      apply Int.emod_eq_zero_of_dvd
      show t ∣ wsum st (wz ++ [(n, s)]) - (sp y - sp x)
      rw [wsum_snoc]
      rcases h with ⟨hs1, h⟩ | ⟨hs1, h⟩
      · rw [h] at h2
        subst hs1
        have := Int.dvd_add h1 h2
        have e : wsum st wz - (sp z - sp x) + (st n - (sp y - sp z)) = wsum st wz + (1 : Int) * st n - (sp y - sp x) := by omega
        rw [← e]; exact this
      · rw [h] at h2
        subst hs1
        have := Int.dvd_sub h1 h2
        have e : wsum st wz - (sp z - sp x) - (st n - (sp z - sp y)) = wsum st wz + (-1 : Int) * st n - (sp y - sp x) := by omega
        rw [← e]; exact this
/-- the ways are the only ones that go on pair by pair -/
theorem Grow.way (hE : EdgesOf ed R E) (g : Grow E x L) {W : α → List (Nat × Int)} (h0 : W x = [])
    (hW : ∀ n, R n → W (ed n).2 = W (ed n).1 ++ [(n, 1)] ∨ W (ed n).1 = W (ed n).2 ++ [(n, -1)]) :
    ∀ p ∈ L, p.2 = W p.1 ∧ (p.1 = x ∨ ∃ z ∈ L.map (·.1), ∃ n s, (n, s, p.1) ∈ E z ∧ W p.1 = W z ++ [(n, s)]) := by
  induction g with
  | start => intro p hp; have : p = (x, []) := by simpa using hp
             subst this; exact ⟨h0.symm, .inl rfl⟩
  | @more L z y wz n s g hz he hy ih =>
    intro p hp
    rcases List.mem_append.mp hp with q | q
    · obtain ⟨h1, h2⟩ := ih p q
      refine ⟨h1, ?_⟩
      rcases h2 with h2 | ⟨z', hz', n', s', h3, h4⟩
      · exact .inl h2
      · exact .inr ⟨z', by rw [List.map_append]; exact List.mem_append_left _ hz', n', s', h3, h4⟩
    · have : p = (y, wz ++ [(n, s)]) := by simpa using q
      subst this
      have hzk : z ∈ L.map (·.1) := List.mem_map.mpr ⟨_, hz, rfl⟩
      obtain ⟨hR, h⟩ := (hE _ _ _ _).mp he
      obtain ⟨wz_eq, wz_par⟩ := ih _ hz
      have wz_eq : wz = W z := wz_eq
      -- the other way round: z came from y
      have bad : ∀ s', (s' = 1 ∧ ed n = (y, z)) ∨ (s' = -1 ∧ ed n = (z, y)) → W z = W y ++ [(n, s')] → False := by
        intro s' hs' hw
        rcases wz_par with q | ⟨z', hz', n', s'', h3, h4⟩
        · have q : z = x := q
          rw [q, h0] at hw
          have := congrArg List.length hw
          simp at this
        · have h4 : W z = W z' ++ [(n', s'')] := h4
          rw [hw] at h4
          have h5 := List.append_inj' h4 rfl
          have h6 : (n, s') = (n', s'') := by simpa using h5.2
          obtain ⟨rfl, rfl⟩ := Prod.mk.inj h6
          obtain ⟨_, h7⟩ := (hE _ _ _ _).mp h3
          apply hy
          rcases h7 with ⟨e1, h7⟩ | ⟨e1, h7⟩ <;> rcases hs' with ⟨e2, h8⟩ | ⟨e2, h8⟩
          · have h7 : ed n = (z', z) := h7
            rw [h8] at h7; rw [(Prod.mk.inj h7).1]; exact hz'
          · omega
          · omega
          · have h7 : ed n = (z, z') := h7
            rw [h8] at h7; rw [(Prod.mk.inj h7).2]; exact hz'
      have good : W y = W z ++ [(n, s)] := by
        rcases h with ⟨e1, h⟩ | ⟨e1, h⟩
        · subst e1
          rcases hW n hR with q | q
          · rwa [h] at q
          · rw [h] at q; exact (bad (-1) (.inr ⟨rfl, h⟩) q).elim
        · subst e1
          rcases hW n hR with q | q
          · rw [h] at q; exact (bad 1 (.inl ⟨rfl, h⟩) q).elim
          · rwa [h] at q
      refine ⟨by show wz ++ [(n, s)] = W y; rw [good, wz_eq], .inr ⟨z, by rw [List.map_append]; exact List.mem_append_left _ hzk, n, s, he, good⟩⟩
end
end JM
end
section
namespace JM
/-! ### a stack: names under heads, by the deeds done -/
section
variable {α : Type} [DecidableEq α]
inductive Deed (α : Type) where
  | join (one other : α) (step : Int) (child : Option α)
  | weigh (name : α) (n old : Int)
def sf {β : Type} (f : α → β) (n : α) (v : β) : α → β := fun m => if m = n then v else f m
theorem sf_same {β : Type} (f : α → β) (n : α) (v : β) : sf f n v n = v := if_pos rfl
theorem sf_ne {β : Type} (f : α → β) {n m : α} (v : β) (h : m ≠ n) : sf f n v m = f m := if_neg h
theorem sf_back {β : Type} (f : α → β) (n : α) (v : β) : sf (sf f n v) n (f n) = f := by
  funext m
  by_cases h : m = n
  · subst h; rw [sf_same]
  · rw [sf_ne _ _ h, sf_ne _ _ h]
/-- the joinings of deeds, numbered -/
def joinsOf : List (Deed α) → List (α × α × Int)
  | [] => []
  | .join o p s _ :: r => (o, p, s) :: joinsOf r
  | .weigh _ _ _ :: r => joinsOf r
theorem joinsOf_append (a b : List (Deed α)) : joinsOf (a ++ b) = joinsOf a ++ joinsOf b := by
  induction a with
  | nil => rfl
  | cons d r ih => cases d <;> simp [joinsOf, ih]
/-- rows by their places -/
def numd (rows : List (α × α × Int)) : List (Nat × α × α) := rows.zipIdx.map fun q => (q.2, q.1.1, q.1.2.1)
theorem numd_snoc (rows : List (α × α × Int)) (r : α × α × Int) : numd (rows ++ [r]) = numd rows ++ [(rows.length, r.1, r.2.1)] := by
  unfold numd
  rw [List.zipIdx_append, List.map_append]
  simp
/-- the labels of rows -/
def labR (rows : List (α × α × Int)) : α → α := (labs (numd rows)).1
structure Sk (α : Type) where
  ab : α → α
  rt : α → α
  dp : α → Nat
  we : α → Int
inductive Hist (ns : List α) : List (Deed α) → Sk α → Prop
  | nil : Hist ns [] ⟨id, id, fun _ => 0, fun _ => 0⟩
  | weigh {ds : List (Deed α)} {k : Sk α} {n : α} {v : Int} : Hist ns ds k → n ∈ ns → Hist ns (ds ++ [.weigh n v (k.we n)]) { k with we := sf k.we n v }
  | known {ds : List (Deed α)} {k : Sk α} {o p : α} {st : Int} : Hist ns ds k → o ∈ ns → p ∈ ns → k.rt o = k.rt p → Hist ns (ds ++ [.join o p st none]) k
  | joined {ds : List (Deed α)} {k : Sk α} {o p : α} {st : Int} {c h : α} : Hist ns ds k → o ∈ ns → p ∈ ns → k.rt o ≠ k.rt p → (c = k.rt p ∧ h = k.rt o ∨ c = k.rt o ∧ h = k.rt p) →
      Hist ns (ds ++ [.join o p st (some c)]) { k with ab := sf k.ab c h, rt := fun n => if k.rt n = c then h else k.rt n, dp := fun n => if k.rt n = c then k.dp n + 1 else k.dp n }
structure Forest (ns : List α) (k : Sk α) : Prop where
  root : ∀ n, k.ab n = n → k.rt n = n ∧ k.dp n = 0
  up : ∀ n, k.ab n ≠ n → k.rt n = k.rt (k.ab n) ∧ k.dp n = k.dp (k.ab n) + 1
  top : ∀ n, k.ab (k.rt n) = k.rt n
  abn : ∀ n ∈ ns, k.ab n ∈ ns
  rtn : ∀ n ∈ ns, k.rt n ∈ ns
theorem Forest.rtrt {ns : List α} {k : Sk α} (f : Forest ns k) (n : α) : k.rt (k.rt n) = k.rt n := (f.root _ (f.top n)).1
theorem Hist.forest {ns : List α} {ds : List (Deed α)} {k : Sk α} (h : Hist ns ds k) : Forest ns k := by
  induction h with
  | nil => exact ⟨fun n _ => ⟨rfl, rfl⟩, fun n h => absurd rfl h, fun n => rfl, fun n h => h, fun n h => h⟩
  | weigh _ _ ih => exact ⟨ih.root, ih.up, ih.top, ih.abn, ih.rtn⟩
  | known _ _ _ _ ih => exact ih
  | @joined ds k o p st c h _ ho hp hne hc ih =>
    have hcc : k.ab c = c := by rcases hc with ⟨q, _⟩ | ⟨q, _⟩ <;> (rw [q]; exact ih.top _)
    have hhh : k.ab h = h := by rcases hc with ⟨_, q⟩ | ⟨_, q⟩ <;> (rw [q]; exact ih.top _)
    have hch : c ≠ h := by rcases hc with ⟨q, z⟩ | ⟨q, z⟩ <;> (rw [q, z]; first | exact hne | exact hne.symm)
    have hrc := ih.root c hcc
    have hrh := ih.root h hhh
    have hhn : h ∈ ns := by rcases hc with ⟨_, q⟩ | ⟨_, q⟩ <;> (rw [q]; exact ih.rtn _ (by assumption))
    refine ⟨fun n hn => ?_, fun n hn => ?_, fun n => ?_, fun n hn => ?_, fun n hn => ?_⟩
    · have hn : sf k.ab c h n = n := hn
      have nc : n ≠ c := fun q => by rw [q, sf_same] at hn; exact hch hn.symm
      rw [sf_ne _ _ nc] at hn
      have := ih.root n hn
      show (if k.rt n = c then h else k.rt n) = n ∧ (if k.rt n = c then k.dp n + 1 else k.dp n) = 0
      rw [this.1, if_neg nc, if_neg nc]
      exact ⟨rfl, this.2⟩
    · have hn : sf k.ab c h n ≠ n := hn
      show (if k.rt n = c then h else k.rt n) = (if k.rt (sf k.ab c h n) = c then h else k.rt (sf k.ab c h n)) ∧ (if k.rt n = c then k.dp n + 1 else k.dp n) = (if k.rt (sf k.ab c h n) = c then k.dp (sf k.ab c h n) + 1 else k.dp (sf k.ab c h n)) + 1
      by_cases nc : n = c
      · subst nc
        rw [sf_same, hrc.1, hrh.1, if_pos rfl, if_pos rfl, if_neg hch.symm, if_neg hch.symm, hrc.2, hrh.2]
        exact ⟨rfl, rfl⟩
      · rw [sf_ne _ _ nc] at hn ⊢
        have := ih.up n hn
        rw [← this.1]
        by_cases q : k.rt n = c
        · rw [if_pos q, if_pos q, if_pos q, this.2]; exact ⟨rfl, rfl⟩
        · rw [if_neg q, if_neg q, if_neg q, this.2]; exact ⟨rfl, rfl⟩
    · show sf k.ab c h (if k.rt n = c then h else k.rt n) = if k.rt n = c then h else k.rt n
      by_cases q : k.rt n = c
      · rw [if_pos q, sf_ne _ _ hch.symm]; exact hhh
      · rw [if_neg q, sf_ne _ _ q]; exact ih.top n
    · show sf k.ab c h n ∈ ns
      by_cases nc : n = c
      · rw [nc, sf_same]; exact hhn
      · rw [sf_ne _ _ nc]; exact ih.abn n hn
    · show (if k.rt n = c then h else k.rt n) ∈ ns
      by_cases q : k.rt n = c
      · rw [if_pos q]; exact hhn
      · rw [if_neg q]; exact ih.rtn n hn
theorem labR_snoc (rows : List (α × α × Int)) (r : α × α × Int) : labR (rows ++ [r]) = if labR rows r.1 = labR rows r.2.1 then labR rows else relab (labR rows) r.1 r.2.1 := by
  unfold labR
  rw [numd_snoc, labs_snoc]
  unfold lstp
  by_cases h : (labs (numd rows)).1 r.1 = (labs (numd rows)).1 r.2.1
  · rw [if_pos h, if_pos h]
  · rw [if_neg h, if_neg h]
theorem Hist.lab {ns : List α} {ds : List (Deed α)} {k : Sk α} (h : Hist ns ds k) : ∀ x y, k.rt x = k.rt y ↔ labR (joinsOf ds) x = labR (joinsOf ds) y := by
  induction h with
  | nil => intro x y; exact Iff.rfl
  | weigh _ _ ih => intro x y; rw [joinsOf_append]; simpa [joinsOf] using ih x y
  | @known ds k o p st _ _ _ he ih =>
    intro x y
    rw [joinsOf_append]
    show _ ↔ labR (joinsOf ds ++ [(o, p, st)]) x = labR (joinsOf ds ++ [(o, p, st)]) y
    rw [labR_snoc, if_pos ((ih o p).mp he)]
    exact ih x y
  | @joined ds k o p st c h hh ho hp hne hc ih =>
    intro x y
    have f := hh.forest
    rw [joinsOf_append]
    show (if k.rt x = c then h else k.rt x) = (if k.rt y = c then h else k.rt y) ↔ labR (joinsOf ds ++ [(o, p, st)]) x = labR (joinsOf ds ++ [(o, p, st)]) y
    have nl : labR (joinsOf ds) o ≠ labR (joinsOf ds) p := fun q => hne ((ih o p).mpr q)
    rw [labR_snoc, if_neg nl, relab_iff nl, ← ih, ← ih, ← ih, ← ih, ← ih]
    have key : ∀ {c h : α}, c ≠ h → ((if k.rt x = c then h else k.rt x) = (if k.rt y = c then h else k.rt y) ↔ k.rt x = k.rt y ∨ (k.rt x = h ∧ k.rt y = c) ∨ (k.rt x = c ∧ k.rt y = h)) := by
      intro c h hch
      by_cases h1 : k.rt x = c <;> by_cases h2 : k.rt y = c
      · rw [if_pos h1, if_pos h2]; exact ⟨fun _ => .inl (h1.trans h2.symm), fun _ => rfl⟩
      · rw [if_pos h1, if_neg h2]
        constructor
        · intro q; exact .inr (.inr ⟨h1, q.symm⟩)
        · rintro (q | ⟨_, q⟩ | ⟨_, q⟩)
          · exact absurd (q.symm.trans h1) h2
          · exact absurd q h2
          · exact q.symm
      · rw [if_neg h1, if_pos h2]
        constructor
        · intro q; exact .inr (.inl ⟨q, h2⟩)
        · rintro (q | ⟨q, _⟩ | ⟨q, _⟩)
          · exact absurd (q.trans h2) h1
          · exact q
          · exact absurd q h1
      · rw [if_neg h1, if_neg h2]
        constructor
        · intro q; exact .inl q
        · rintro (q | ⟨_, q⟩ | ⟨q, _⟩)
          · exact q
          · exact absurd q h2
          · exact absurd q h1
    rcases hc with ⟨q1, q2⟩ | ⟨q1, q2⟩
    · subst q1; subst q2
      exact key hne.symm
    · subst q1; subst q2
      rw [key hne]
      constructor
      · rintro (q | ⟨q, z⟩ | ⟨q, z⟩)
        · exact .inl q
        · exact .inr (.inr ⟨q, z⟩)
        · exact .inr (.inl ⟨q, z⟩)
      · rintro (q | ⟨q, z⟩ | ⟨q, z⟩)
        · exact .inl q
        · exact .inr (.inr ⟨q, z⟩)
        · exact .inr (.inl ⟨q, z⟩)
theorem Hist.depth {ns : List α} {ds : List (Deed α)} {k : Sk α} (h : Hist ns ds k) : ∀ n, k.dp n ≤ ds.length := by
  induction h with
  | nil => intro n; exact Nat.le_refl _
  | weigh _ _ ih => intro n; have := ih n; rw [List.length_append]; simp; omega
  | known _ _ _ _ ih => intro n; have := ih n; rw [List.length_append]; simp; omega
  | @joined ds k o p st c h _ _ _ _ _ ih =>
    intro n
    have := ih n
    show (if k.rt n = c then k.dp n + 1 else k.dp n) ≤ _
    rw [List.length_append]
    split <;> simp <;> omega
/-- a weight: the last one given -/
def weightOf (ds : List (Deed α)) (n : α) : Int := (ds.filterMap fun d => match d with | .weigh m v _ => if m = n then some v else none | _ => none).getLastD 0
theorem Hist.weight {ns : List α} {ds : List (Deed α)} {k : Sk α} (h : Hist ns ds k) : ∀ n, k.we n = weightOf ds n := by
  induction h with
  | nil => intro n; rfl
  | @weigh ds k m v _ _ ih =>
    intro n
    unfold weightOf
    rw [List.filterMap_append]
    show sf k.we m v n = _
    by_cases q : n = m
    · subst q
      rw [sf_same]
      simp
    · rw [sf_ne _ _ q, ih n]
      unfold weightOf
      simp [Ne.symm q]
  | known _ _ _ _ ih => intro n; rw [ih n]; unfold weightOf; rw [List.filterMap_append]; simp
  | joined _ _ _ _ _ ih => intro n; show _ = _; rw [ih n]; unfold weightOf; rw [List.filterMap_append]; simp
end
end JM
end
section
namespace JM
section
variable {α : Type} [DecidableEq α]
/-- the labels of pairs by their places -/
def plc (es : List (α × α)) : List (Nat × α × α) := es.zipIdx.map fun q => (q.2, q.1)
theorem plc_snoc (es : List (α × α)) (e : α × α) : plc (es ++ [e]) = plc es ++ [(es.length, e)] := by
  unfold plc
  rw [List.zipIdx_append, List.map_append]
  simp
theorem plc_fst (es : List (α × α)) : (plc es).map (·.1) = List.range es.length := by
  refine snocInd (P := fun es => (plc es).map (·.1) = List.range es.length) rfl (fun l x ih => ?_) es
  rw [plc_snoc, List.map_append, ih, List.length_append, List.length_singleton, List.range_succ]; rfl
def labsP (es : List (α × α)) : (α → α) × List Nat := labs (plc es)
theorem labsP_snoc (es : List (α × α)) (e : α × α) : labsP (es ++ [e]) = if (labsP es).1 e.1 = (labsP es).1 e.2 then labsP es else (relab (labsP es).1 e.1 e.2, (labsP es).2 ++ [es.length]) := by
  unfold labsP
  rw [plc_snoc, labs_snoc]; rfl
theorem labR_P (rows : List (α × α × Int)) : labR rows = (labsP (rows.map fun r => (r.1, r.2.1))).1 := by
  unfold labR labsP
  congr 2
  refine snocInd (P := fun rows : List (α × α × Int) => numd rows = plc (rows.map fun r => (r.1, r.2.1))) rfl (fun l x ih => ?_) rows
  rw [numd_snoc, List.map_append, ih]
  show _ = plc (l.map _ ++ [_])
  rw [plc_snoc, List.length_map]
theorem labs_mem {ns : List α} (rows : List (Nat × α × α)) : (∀ r ∈ rows, r.2.1 ∈ ns) → ∀ n ∈ ns, (labs rows).1 n ∈ ns := by
  refine snocInd (P := fun rows => (∀ r ∈ rows, r.2.1 ∈ ns) → ∀ n ∈ ns, (labs rows).1 n ∈ ns) (fun _ n hn => hn) (fun l x ih h n hn => ?_) rows
  have ih := ih fun r hr => h r (List.mem_append_left _ hr)
  rw [labs_snoc]
  unfold lstp
  split
  · exact ih n hn
  · show relab _ _ _ n ∈ ns
    unfold relab
    split
    · exact ih _ (h x (by simp))
    · exact ih n hn
/-- the numbers of the rows that hold -/
def holdOf (rows : List (Nat × α × α)) : List Nat := (labs rows).2
/-- by places or by numbers: the same rows hold -/
theorem hold_places (rows : List (Nat × α × α)) : (labsP (rows.map (·.2))).1 = (labs rows).1 ∧ holdOf rows = (labsP (rows.map (·.2))).2.filterMap fun p => (rows[p]?).map (·.1) := by
  refine snocInd (P := fun rows => (labsP (rows.map (·.2))).1 = (labs rows).1 ∧ holdOf rows = (labsP (rows.map (·.2))).2.filterMap fun p => (rows[p]?).map (·.1)) ⟨rfl, rfl⟩ (fun l x ih => ?_) rows
  have bd : ∀ p ∈ (labsP (l.map (·.2))).2, p < l.length := fun p hp => by
    have h := (labs_sub (plc (l.map (·.2)))).subset hp
    rw [plc_fst] at h
    simpa using h
  have ext : ((labsP (l.map (·.2))).2.filterMap fun p => ((l ++ [x])[p]?).map (·.1)) = (labsP (l.map (·.2))).2.filterMap fun p => (l[p]?).map (·.1) := by
    have key : ∀ ps : List Nat, (∀ p ∈ ps, p < l.length) → (ps.filterMap fun p => ((l ++ [x])[p]?).map (·.1)) = ps.filterMap fun p => (l[p]?).map (·.1) := by
      intro ps
      induction ps with
      | nil => intro _; rfl
      | cons a r ih =>
        intro h
        rw [List.filterMap_cons, List.filterMap_cons, ih fun p hp => h p (List.mem_cons_of_mem _ hp), List.getElem?_append_left (h a List.mem_cons_self)]
    exact key _ bd
  unfold holdOf at *
  rw [List.map_append]
  show (labsP (l.map (·.2) ++ [x.2])).1 = _ ∧ _
  have e2 : (labsP (l.map (·.2) ++ [x.2])) = _ := labsP_snoc _ _
  show (labsP (l.map (·.2) ++ [x.2])).1 = _ ∧ (labs (l ++ [x])).2 = (labsP (l.map (·.2) ++ [x.2])).2.filterMap _
  rw [e2, labs_snoc, ih.1]
  unfold lstp
  by_cases h : (labs l).1 x.2.1 = (labs l).1 x.2.2
  · rw [if_pos h, if_pos h]
    refine ⟨ih.1, ?_⟩
    rw [ext]; exact ih.2
  · rw [if_neg h, if_neg h]
    refine ⟨rfl, ?_⟩
    show (labs l).2 ++ [x.1] = ((labsP (l.map (·.2))).2 ++ [(l.map (·.2)).length]).filterMap _
    rw [List.filterMap_append, ext, ih.2, List.length_map]
    simp
end
end JM
end
section
namespace JB
open PySem L2
/-! ### heaps: what stays -/
/-- all but the object at m stays -/
def Fr1 (m : Addr) (H H' : Hp) : Prop := ∀ a o, H a = some o → a ≠ m → H' a = some o
theorem Same.fr {m : Addr} {H H' : Hp} (e : Same H H') : Fr1 m H H' := fun a o h _ => e a o h
theorem Fr1.trans {m : Addr} {H H1 H2 : Hp} (a : Fr1 m H H1) (b : Fr1 m H1 H2) : Fr1 m H H2 := fun c o h n => b c o (a c o h n) n
theorem Fr1.refl (m : Addr) (H : Hp) : Fr1 m H H := fun _ _ h _ => h
theorem Fr1.upd {m : Addr} {H : Hp} {o : HO} : Fr1 m H (upd H m o) := fun a u h n => by rw [upd_ne n]; exact h
theorem same_new {H : Hp} {p : Addr} {o : HO} (hp : H p = none) : Same H (upd H p o) := fun a u h => by
  rw [upd_ne (ne_of_none h hp)]; exact h
/-- an object that H does not know may change -/
theorem Same.mut {H H1 H2 : Hp} {m : Addr} (e : Same H H1) (h : H m = none) (f : Fr1 m H1 H2) : Same H H2 := fun a o ha =>
  f a o (e a o ha) (ne_of_none ha h)
theorem Same.none {H H1 : Hp} {m : Addr} (e : Same H H1) (h : H1 m = Option.none) : H m = Option.none := e.free h
theorem hp_same {H H' : Hp} {a : Addr} {o : HO} (e : Same H H') (h : H a = some o) : H' a = some o := e a o h
theorem hp_fr {m : Addr} {H H' : Hp} {a : Addr} {o : HO} (e : Fr1 m H H') (h : H a = some o) (n : a ≠ m) : H' a = some o := e a o h n
theorem hp_upd {H : Hp} {a p : Addr} {o u : HO} (h : H p = some o) (n : p ≠ a) : upd H a u p = some o := by rw [upd_ne n]; exact h
theorem sq_same {K : PySem.W.Frag} {H H' : Hp} {a : Addr} {xs : List V} (e : Same H H') (h : SqL K H a xs) : SqL K H' a xs := e.seq h
theorem st_same {K : PySem.W.Frag} {H H' : Hp} {a : Addr} {xs : List V} (e : Same H H') (h : SqT K H a xs) : SqT K H' a xs := by
  rcases h with (h | ⟨o, h⟩) | h
  · exact .inl (.inl (e _ _ h))
  · exact .inl (.inr ⟨o, e _ _ h⟩)
  · exact .inr h
theorem sz (n : Nat) (h : n ≤ 16777216) : n ≤ sizeLine := by rw [sizeLine_eq]; exact h
theorem szlt (n : Nat) (h : n < 16777216) : n < sizeLine := by rw [sizeLine_eq]; exact h
/-! ### readings, one piece at a time -/
section
variable {K : PySem.W.Frag} {σ : L2.St} {H : Hp} {Q : VK} {D : Ends} {ta tb te : TE}
theorem w_var {i : Nat} {v : V} (h : σ[i]? = some (some v)) (k : Q v H) : tVar i σ H Q := ⟨v, h, k⟩
theorem w_c {v : V} (k : Q v H) : tC v σ H Q := k
theorem w_op {r : R2} (k : ta σ H fun x H1 => tb σ H1 fun y H2 => r x y H2 Q) : tOp r ta tb σ H Q := k
theorem w_un {r : V → Hp → VK → Prop} (k : ta σ H fun x H1 => r x H1 Q) : tUn r ta σ H Q := k
theorem w_nil {Q : List V → Hp → Prop} (k : Q [] H) : tNil σ H Q := k
theorem w_cons {tr : TA} {Q : List V → Hp → Prop} (k : ta σ H fun x H1 => tr σ H1 fun xs H2 => Q (x :: xs) H2) : tCons ta tr σ H Q := k
theorem w_seq {t u : TS} (k : t { D with nx := u D } σ H) : tSeq t u D σ H := k
theorem w_next (k : D.nx σ H) : tNext D σ H := k
theorem w_asg {g : TG} (k : te σ H fun x H1 => g x σ H1 D.nx) : tAsg te g D σ H := k
theorem w_gname {i : Nat} {v : V} {Q : L2.St → Hp → Prop} (k : Q (σ.set i (some v)) H) : gName i v σ H Q := k
theorem w_ret (k : te σ H D.rt) : tRet te D σ H := k
theorem w_retN (k : D.rt .non H) : tRetN D σ H := k
theorem w_drop (k : te σ H fun _ H1 => D.nx σ H1) : tDrop te D σ H := k
theorem w_ifS {c : TT} {t u : TS} (k : c σ H fun b H1 => if b = true then t D σ H1 else u D σ H1) : tIfS c t u D σ H := k
theorem w_if {c : TT} (k : c σ H fun b H1 => if b = true then ta σ H1 Q else tb σ H1 Q) : tIf c ta tb σ H Q := k
def rBool (Q : Bool → Hp → Prop) : VK := fun x H => ∃ b, x = .bl b ∧ Q b H
theorem w_test {Q : Bool → Hp → Prop} (k : te σ H (rBool Q)) : tTest te σ H Q := k
theorem w_B {Q : Bool → Hp → Prop} (k : te σ H (rBool Q)) : tB te σ H Q := k
theorem w_bool {Q : Bool → Hp → Prop} {b : Bool} (k : Q b H) : rBool Q (.bl b) H := ⟨b, rfl, k⟩
theorem w_and {t u : TT} {Q : Bool → Hp → Prop} (k : t σ H fun c H1 => if c = true then u σ H1 Q else Q false H1) : tAnd t u σ H Q := k
theorem w_or {t u : TT} {Q : Bool → Hp → Prop} (k : t σ H fun c H1 => if c = true then Q true H1 else u σ H1 Q) : tOr t u σ H Q := k
theorem w_not {t : TT} {Q : Bool → Hp → Prop} (k : t σ H fun c H1 => Q (!c) H1) : tNot t σ H Q := k
def rAndV (tb : TE) (σ : L2.St) (Q : VK) : VK := fun x H1 => ∃ c, x = .bl c ∧ if c = true then tb σ H1 Q else Q (.bl false) H1
theorem w_andV (k : ta σ H (rAndV tb σ Q)) : tAndV ta tb σ H Q := k
theorem r_andV {c : Bool} (k : if c = true then tb σ H Q else Q (.bl false) H) : rAndV tb σ Q (.bl c) H := ⟨c, rfl, k⟩
theorem w_isN (k : ta σ H fun x H1 => Q (.bl (decide (x = .non))) H1) : tIsN ta σ H Q := k
theorem w_notN (k : ta σ H fun x H1 => Q (.bl (!decide (x = .non))) H1) : tNotN ta σ H Q := k
theorem r_I0 {g : Int → Int → V} {i j : Int} (k : Q (g i j) H) : rI0 g (.int i) (.int j) H Q := ⟨i, j, rfl, rfl, k⟩
theorem r_I {C : Int → Int → Prop} {g : Int → Int → V} {i j : Int} (c : C i j) (k : Q (g i j) H) : rI C g (.int i) (.int j) H Q := ⟨i, j, rfl, rfl, c, k⟩
theorem r_U {g : Int → V} {i : Int} (k : Q (g i) H) : rU g (.int i) H Q := ⟨i, rfl, k⟩
theorem r_eqI {i j : Int} (k : Q (.bl (decide (i = j))) H) : rEq (.int i) (.int j) H Q := ⟨rfl, by
  rw [show decide (V.int i = V.int j) = decide (i = j) by simp]; exact k⟩
theorem r_neI {i j : Int} (k : Q (.bl (!decide (i = j))) H) : rNe (.int i) (.int j) H Q := ⟨rfl, by
  rw [show decide (V.int i = V.int j) = decide (i = j) by simp]; exact k⟩
theorem r_eqS {i j : Str} (k : Q (.bl (decide (i = j))) H) : rEq (.str i) (.str j) H Q := ⟨rfl, by
  rw [show decide (V.str i = V.str j) = decide (i = j) by simp]; exact k⟩
theorem r_neS {i j : Str} (k : Q (.bl (!decide (i = j))) H) : rNe (.str i) (.str j) H Q := ⟨rfl, by
  rw [show decide (V.str i = V.str j) = decide (i = j) by simp]; exact k⟩
theorem r_neB {i j : Bool} (k : Q (.bl (!decide (i = j))) H) : rNe (.bl i) (.bl j) H Q := ⟨rfl, by
  rw [show decide (V.bl i = V.bl j) = decide (i = j) by simp]; exact k⟩
/-! fields -/
def rFld (K : PySem.W.Frag) (f : Str) (Q : VK) : VK := fun x H1 => ∃ a C dx fs v, x = .ref a ∧ H1 a = some (.ins C dx fs) ∧ Cls K C ∧ NoAttr K C f ∧ fs.lookup f = some v ∧ Q v H1
theorem w_fld {f : Str} (k : ta σ H (rFld K f Q)) : tFld K ta f σ H Q := k
theorem r_fld {f : Str} {p C dx : Addr} {fs : List (Str × V)} {v : V} (h : H p = some (.ins C dx fs)) (c : Cls K C) (n : NoAttr K C f) (l : fs.lookup f = some v) (k : Q v H) : rFld K f Q (.ref p) H :=
  ⟨p, C, dx, fs, v, rfl, h, c, n, l, k⟩
def rSFld (K : PySem.W.Frag) (f : Str) (y : V) (D : Ends) (σ : L2.St) : VK := fun x H2 => ∃ a C dx fs, x = .ref a ∧ H2 a = some (.ins C dx fs) ∧ Cls K C ∧ NoAttr K C f ∧ fs.length < 1000 ∧
  D.nx σ (upd H2 a (.ins C dx (putF f y fs)))
theorem w_sfld {f : Str} (k : tb σ H fun y H1 => ta σ H1 (rSFld K f y D σ)) : sFld K ta tb f D σ H := k
theorem r_sfld {f : Str} {y : V} {p C dx : Addr} {fs : List (Str × V)} (h : H p = some (.ins C dx fs)) (c : Cls K C) (n : NoAttr K C f) (l : fs.length < 1000)
    (k : ∀ H', (hf : Fr1 p H H') → (hp : H' p = some (.ins C dx (putF f y fs))) → D.nx σ H') : rSFld K f y D σ (.ref p) H :=
  ⟨p, C, dx, fs, rfl, h, c, n, l, k _ Fr1.upd upd_same⟩
/-! new objects -/
def rTup (xs : List V) (Q : VK) : Hp → Prop := fun H1 => xs.length ≤ sizeLine ∧ ∀ p, H1 p = none → Q (.ref p) (upd H1 p (.tup xs))
def rLst (xs : List V) (Q : VK) : Hp → Prop := fun H1 => xs.length ≤ sizeLine ∧ ∀ p, H1 p = none → Q (.ref p) (upd H1 p (.lst xs))
theorem w_tup {t : TA} (k : t σ H fun xs => rTup xs Q) : tTup t σ H Q := k
theorem w_lst {t : TA} (k : t σ H fun xs => rLst xs Q) : tLst t σ H Q := k
theorem r_tup {xs : List V} (hl : xs.length ≤ sizeLine) (k : ∀ p H', (hn : H p = none) → (he : Same H H') → (hp : H' p = some (.tup xs)) → Q (.ref p) H') : rTup xs Q H :=
  ⟨hl, fun p hp => k p _ hp (same_new hp) upd_same⟩
theorem r_lst {xs : List V} (hl : xs.length ≤ sizeLine) (k : ∀ p H', (hn : H p = none) → (he : Same H H') → (hp : H' p = some (.lst xs)) → Q (.ref p) H') : rLst xs Q H :=
  ⟨hl, fun p hp => k p _ hp (same_new hp) upd_same⟩
theorem w_dnew (k : ∀ p H', (hn : H p = none) → (he : Same H H') → (hp : H' p = some (.dK [])) → Q (.ref p) H') : tDNewK σ H Q := fun p hp => k p _ hp (same_new hp) upd_same
/-- a new object's own words -/
theorem newly {o : HO} {P : V → Hp → Prop} (k : ∀ p H', (hn : H p = none) → (he : Same H H') → (hp : H' p = some o) → P (.ref p) H') : ∀ p, H p = none → P (.ref p) (upd H p o) := fun p hp => k p _ hp (same_new hp) upd_same
/-! calls -/
theorem w_call {sp : Sp} {E : XK} {t : TA} (k : t σ H fun vs H1 => sp vs H1 Q E) : tCall sp [] E t σ H Q := by
  unfold tCall
  have e : (fun (vs : List V) (H1 : Hp) => sp (vs ++ []) H1 Q E) = fun vs H1 => sp vs H1 Q E := by
    funext vs H1; rw [List.append_nil]
  rw [e]; exact k
def rMeth (C : Addr) (m : Str) (sp : Sp) (E : XK) (t : TA) (σ : L2.St) (Q : VK) : VK := fun x H1 => ∃ a dx fs, x = .ref a ∧ H1 a = some (.ins C dx fs) ∧ fs.lookup m = none ∧ t σ H1 fun vs H2 => sp (x :: vs) H2 Q E
theorem w_meth {C : Addr} {m : Str} {sp : Sp} {E : XK} {t : TA} (k : ta σ H (rMeth C m sp E t σ Q)) : tMeth C m sp [] E ta t σ H Q := by
  unfold tMeth
  have e : ∀ x : V, (fun (vs : List V) (H1 : Hp) => sp (x :: (vs ++ [])) H1 Q E) = fun vs H1 => sp (x :: vs) H1 Q E := by
    intro x; funext vs H1; rw [List.append_nil]
  simp only [e]; exact k
theorem r_meth {C : Addr} {m : Str} {sp : Sp} {E : XK} {t : TA} {p dx : Addr} {fs : List (Str × V)} (h : H p = some (.ins C dx fs)) (l : fs.lookup m = none) (k : t σ H fun vs H2 => sp (.ref p :: vs) H2 Q E) : rMeth C m sp E t σ Q (.ref p) H :=
  ⟨p, dx, fs, rfl, h, l, k⟩
def rMake (C : Addr) (sp : Sp) (E : XK) (Q : VK) (vs : List V) : Hp → Prop := fun H1 => ∀ x dx, H1 x = none → H1 dx = none → dx ≠ x → sp (.ref x :: vs) (upd (upd H1 dx (.own x)) x (.ins C dx [])) (fun v H2 => v = .non ∧ Q (.ref x) H2) E
theorem w_make {C : Addr} {sp : Sp} {E : XK} {t : TA} (k : t σ H fun vs H1 => rMake C sp E Q vs H1) : tMake C sp [] E t σ H Q := by
  unfold tMake
  have e : ∀ vs : List V, vs ++ [] = vs := List.append_nil
  simp only [e]; exact k
theorem r_make {C : Addr} {sp : Sp} {E : XK} {vs : List V} (k : ∀ x dx H', (hn : H x = none) → (he : Same H H') → (hp : H' x = some (.ins C dx [])) → sp (.ref x :: vs) H' (fun v H2 => v = .non ∧ Q (.ref x) H2) E) : rMake C sp E Q vs H := fun x dx hx hdx hn =>
  k x dx _ hx (fun a o h => by rw [upd_ne (ne_of_none h hx), upd_ne (ne_of_none h hdx)]; exact h) upd_same
theorem w_cb {r : List V → Hp → VK → Prop} {t : TA} (k : t σ H fun vs H1 => r vs H1 Q) : tCB r t σ H Q := k
theorem w_bm {T : String} {r : V → List V → Hp → VK → Prop} {t : TA} (k : ta σ H fun x H1 => tyV K T x H1 ∧ t σ H1 fun xs H2 => r x xs H2 Q) : tBM K T r ta t σ H Q := k
theorem w_bm0 {T : String} {r : V → List V → Hp → VK → Prop} (k : ta σ H fun x H1 => tyV K T x H1 ∧ r x [] H1 Q) : tBM0 K T r ta σ H Q := k
theorem ty_list {l : Addr} {xs : List V} {P : Prop} (h : H l = some (.lst xs)) (k : P) : tyV K "list" (.ref l) H ∧ P := ⟨.inl ⟨rfl, _, SqL.of h⟩, k⟩
theorem r_append {l : Addr} {xs : List V} {y : V} (h : H l = some (.lst xs)) (hz : xs.length < sizeLine) (k : ∀ H', (hf : Fr1 l H H') → (hp : H' l = some (.lst (xs ++ [y]))) → Q .non H') : rAppend (.ref l) [y] H Q :=
  ⟨l, xs, y, rfl, rfl, h, hz, k _ Fr1.upd upd_same⟩
theorem r_pop {l : Addr} {xs : List V} {y : V} (h : H l = some (.lst (xs ++ [y]))) (k : ∀ H', (hf : Fr1 l H H') → (hp : H' l = some (.lst xs)) → Q y H') : rPop (.ref l) [] H Q := by
  refine ⟨l, _, y, rfl, rfl, h, by simp, ?_⟩
  rw [List.dropLast_concat]
  exact k _ Fr1.upd upd_same
theorem r_lenL {l : Addr} {xs : List V} (h : H l = some (.lst xs)) (k : Q (.int xs.length) H) : ∃ p ys, [V.ref l] = [.ref p] ∧ (SqL K H p ys ∨ SqT K H p ys) ∧ Q (.int ys.length) H := ⟨l, xs, rfl, .inl (SqL.of h), k⟩
theorem r_lenT {l : Addr} {xs : List V} (h : H l = some (.tup xs)) (k : Q (.int xs.length) H) : ∃ p ys, [V.ref l] = [.ref p] ∧ (SqL K H p ys ∨ SqT K H p ys) ∧ Q (.int ys.length) H := ⟨l, xs, rfl, .inr (SqT.of h), k⟩
/-! items -/
theorem r_ixL {l : Addr} {xs : List V} {i : Int} {v : V} (h : H l = some (.lst xs)) (a : atI xs i = some v) (k : Q v H) : rIxL K (.ref l) (.int i) H Q := ⟨l, xs, i, v, rfl, rfl, SqL.of h, a, k⟩
theorem r_ixT {l : Addr} {xs : List V} {i : Int} {v : V} (h : H l = some (.tup xs)) (a : atI xs i = some v) (k : Q v H) : rIxT K (.ref l) (.int i) H Q := ⟨l, xs, i, v, rfl, rfl, SqT.of h, a, k⟩
/-! dicts -/
def rDGet (a : V) (Q : VK) : VK := fun y H2 => ∃ d v, a = .ref d ∧ DGet H2 d y (some v) ∧ Q v H2
theorem w_dget {td ty : TE} (k : td σ H fun x H1 => ty σ H1 (rDGet x Q)) : tDGet td ty σ H Q := k
theorem r_dgetS {d : Addr} {kvs : List (Key × V)} {n : Str} {v : V} (h : H d = some (.dK kvs)) (e : valV kvs (Sum.inr n) = some v) (k : Q v H) : rDGet (.ref d) Q (.str n) H :=
  ⟨d, v, rfl, e ▸ DGet.k (k := Sum.inr n) h, k⟩
theorem r_dgetI {d : Addr} {kvs : List (Key × V)} {n : Int} {v : V} (h : H d = some (.dK kvs)) (e : valV kvs (Sum.inl n) = some v) (k : Q v H) : rDGet (.ref d) Q (.int n) H :=
  ⟨d, v, rfl, e ▸ DGet.k (k := Sum.inl n) h, k⟩
def rDIn (y : V) (Q : VK) : VK := fun x H2 => ∃ a o, x = .ref a ∧ DGet H2 a y o ∧ Q (.bl o.isSome) H2
def rDNotIn (y : V) (Q : VK) : VK := fun x H2 => ∃ a o, x = .ref a ∧ DGet H2 a y o ∧ Q (.bl (!o.isSome)) H2
theorem w_din {td ty : TE} (k : ty σ H fun y H1 => td σ H1 (rDIn y Q)) : tDIn ty td σ H Q := k
theorem w_dnotin {td ty : TE} (k : ty σ H fun y H1 => td σ H1 (rDNotIn y Q)) : tDNotIn ty td σ H Q := k
theorem r_dinS {d : Addr} {kvs : List (Key × V)} {n : Str} (h : H d = some (.dK kvs)) (k : Q (.bl (valV kvs (Sum.inr n)).isSome) H) : rDIn (.str n) Q (.ref d) H := ⟨d, _, rfl, DGet.k (k := Sum.inr n) h, k⟩
theorem r_dnotinS {d : Addr} {kvs : List (Key × V)} {n : Str} (h : H d = some (.dK kvs)) (k : Q (.bl (!(valV kvs (Sum.inr n)).isSome)) H) : rDNotIn (.str n) Q (.ref d) H := ⟨d, _, rfl, DGet.k (k := Sum.inr n) h, k⟩
theorem r_dinI {d : Addr} {kvs : List (Key × V)} {n : Int} (h : H d = some (.dK kvs)) (k : Q (.bl (valV kvs (Sum.inl n)).isSome) H) : rDIn (.int n) Q (.ref d) H := ⟨d, _, rfl, DGet.k (k := Sum.inl n) h, k⟩
theorem r_dnotinI {d : Addr} {kvs : List (Key × V)} {n : Int} (h : H d = some (.dK kvs)) (k : Q (.bl (!(valV kvs (Sum.inl n)).isSome)) H) : rDNotIn (.int n) Q (.ref d) H := ⟨d, _, rfl, DGet.k (k := Sum.inl n) h, k⟩
def rDPut (v x : V) (D : Ends) (σ : L2.St) : VK := fun y H3 => ∃ a H4, x = .ref a ∧ DPut H3 a y v H4 ∧ D.nx σ H4
theorem w_dput {td ty tv : TE} (k : tv σ H fun v H1 => td σ H1 fun x H2 => ty σ H2 (rDPut v x D σ)) : sDPut td ty tv D σ H := k
theorem r_dputS {d : Addr} {kvs : List (Key × V)} {n : Str} {v : V} (h : H d = some (.dK kvs)) (hz : kvs.length < sizeLine) (k : ∀ H', (hf : Fr1 d H H') → (hp : H' d = some (.dK (putK kvs (Sum.inr n) v))) → D.nx σ H') : rDPut v (.ref d) D σ (.str n) H :=
  ⟨d, _, rfl, DPut.k (k := Sum.inr n) h hz, k _ Fr1.upd upd_same⟩
theorem r_dputI {d : Addr} {kvs : List (Key × V)} {n : Int} {v : V} (h : H d = some (.dK kvs)) (hz : kvs.length < sizeLine) (k : ∀ H', (hf : Fr1 d H H') → (hp : H' d = some (.dK (putK kvs (Sum.inl n) v))) → D.nx σ H') : rDPut v (.ref d) D σ (.int n) H :=
  ⟨d, _, rfl, DPut.k (k := Sum.inl n) h hz, k _ Fr1.upd upd_same⟩
/-! targets -/
def rUnp (K : PySem.W.Frag) (n : Nat) (t : TGs) (σ : L2.St) (Q : L2.St → Hp → Prop) : VK := fun v H => ∃ a xs, v = .ref a ∧ SqT K H a xs ∧ xs.length = n ∧ t xs σ H Q
theorem w_gtup {n : Nat} {t : TGs} {v : V} {Q : L2.St → Hp → Prop} (k : rUnp K n t σ Q v H) : gTup K n t v σ H Q := k
theorem r_unp {n : Nat} {t : TGs} {a : Addr} {xs : List V} {Q : L2.St → Hp → Prop} (h : H a = some (.tup xs)) (l : xs.length = n) (k : t xs σ H Q) : rUnp K n t σ Q (.ref a) H := ⟨a, xs, rfl, SqT.of h, l, k⟩
theorem w_gcons {t : TG} {u : TGs} {v : V} {r : List V} {Q : L2.St → Hp → Prop} (k : t v σ H fun σ' H' => u r σ' H' Q) : gCons t u (v :: r) σ H Q := ⟨v, r, rfl, k⟩
theorem w_gnil {Q : L2.St → Hp → Prop} (k : Q σ H) : gNil [] σ H Q := ⟨rfl, k⟩
/-! loops -/
def LoopAt (J : It) (g : TG) (tb : TS) (D : Ends) (σ : L2.St) (H1 : Hp) : Prop := ∃ W : Nat → Nat → L2.St → Hp → Prop, (∃ m, W 0 m σ H1) ∧ ∀ i m σ H, W i m σ H →
  (J.stop i H ∧ D.nx σ H) ∨ (J.go i H ∧ ∃ N : L2.St → Hp → Prop, (∀ σ' H', N σ' H' → ∃ m', m' < m ∧ W (i + 1) m' σ' H') ∧ ∀ x H', J.yld i H x H' → g x σ H' fun σ2 H2 => tb { D with nx := N, ct := N, bk := D.nx } σ2 H2)
theorem w_for {wi : TI} {g : TG} {tb : TS} (k : wi σ H fun J H1 => LoopAt J g tb D σ H1) : tFor wi g tb D σ H := k
def rIterL (K : PySem.W.Frag) (R : It → Hp → Prop) : VK := fun x H1 => ∃ a, x = .ref a ∧ (∃ xs, SqL K H1 a xs) ∧ R (Itl K a) H1
def rIterT (K : PySem.W.Frag) (R : It → Hp → Prop) : VK := fun x H1 => ∃ a, x = .ref a ∧ (∃ xs, SqT K H1 a xs) ∧ R (Itt K a) H1
theorem w_iList {R : It → Hp → Prop} (k : ta σ H (rIterL K R)) : iList K ta σ H R := k
theorem w_iTup {R : It → Hp → Prop} (k : ta σ H (rIterT K R)) : iTup K ta σ H R := k
theorem r_iterL {a : Addr} {xs : List V} {R : It → Hp → Prop} (h : H a = some (.lst xs)) (k : R (Itl K a) H) : rIterL K R (.ref a) H := ⟨a, rfl, ⟨xs, SqL.of h⟩, k⟩
theorem r_iterT {a : Addr} {xs : List V} {R : It → Hp → Prop} (h : H a = some (.tup xs)) (k : R (Itt K a) H) : rIterT K R (.ref a) H := ⟨a, rfl, ⟨xs, SqT.of h⟩, k⟩
/-- a for over a list that stands -/
theorem loop_list {a : Addr} {xs : List V} {g : TG} {tb : TS} (Pv : Nat → L2.St → Hp → Prop) (h0 : Pv 0 σ H) (hl : ∀ i σ H, i ≤ xs.length → Pv i σ H → H a = some (.lst xs))
    (hs : ∀ i x σ H, xs[i]? = some x → Pv i σ H → g x σ H fun σ2 H2 => tb { D with nx := Pv (i + 1), ct := Pv (i + 1), bk := D.nx } σ2 H2) (hd : ∀ σ H, Pv xs.length σ H → D.nx σ H) : LoopAt (Itl K a) g tb D σ H :=
  for_list (K := K) Pv h0 (fun i σ H hi p => SqL.of (hl i σ H hi p)) hs hd
theorem loop_tup {a : Addr} {xs : List V} {g : TG} {tb : TS} (Pv : Nat → L2.St → Hp → Prop) (h0 : Pv 0 σ H) (hl : ∀ i σ H, i ≤ xs.length → Pv i σ H → H a = some (.tup xs))
    (hs : ∀ i x σ H, xs[i]? = some x → Pv i σ H → g x σ H fun σ2 H2 => tb { D with nx := Pv (i + 1), ct := Pv (i + 1), bk := D.nx } σ2 H2) (hd : ∀ σ H, Pv xs.length σ H → D.nx σ H) : LoopAt (Itt K a) g tb D σ H :=
  for_tup (K := K) Pv h0 (fun i σ H hi p => SqT.of (hl i σ H hi p)) hs hd
theorem loop_range {lo : Int} {n : Nat} {g : TG} {tb : TS} (Pv : Nat → L2.St → Hp → Prop) (h0 : Pv 0 σ H)
    (hs : ∀ i σ H, i < n → Pv i σ H → g (.int (lo + i)) σ H fun σ2 H2 => tb { D with nx := Pv (i + 1), ct := Pv (i + 1), bk := D.nx } σ2 H2) (hd : ∀ σ H, Pv n σ H → D.nx σ H) : LoopAt (Itr lo n) g tb D σ H :=
  for_range Pv h0 hs hd
/-- a while by an invariant with its measure -/
theorem w_while {c : TT} {tb : TS} (W : Nat → L2.St → Hp → Prop) (h0 : ∃ m, W m σ H)
    (hs : ∀ m σ H, W m σ H → c σ H fun b H1 => if b = true then ∃ N : L2.St → Hp → Prop, (∀ σ' H', N σ' H' → ∃ m', m' < m ∧ W m' σ' H') ∧ tb { D with nx := N, ct := N, bk := D.nx } σ H1 else D.nx σ H1) : tWhile c tb D σ H := ⟨W, h0, hs⟩
theorem w_wbody {tb : TS} {W : Nat → L2.St → Hp → Prop} {m : Nat} (k : tb { D with nx := fun σ' H' => ∃ m', m' < m ∧ W m' σ' H', ct := fun σ' H' => ∃ m', m' < m ∧ W m' σ' H', bk := D.nx } σ H) :
    ∃ N : L2.St → Hp → Prop, (∀ σ' H', N σ' H' → ∃ m', m' < m ∧ W m' σ' H') ∧ tb { D with nx := N, ct := N, bk := D.nx } σ H := ⟨_, fun _ _ h => h, k⟩
end
/-! ### tests -/
theorem ite_of {p A B : Prop} [Decidable p] (h1 : p → A) (h2 : ¬ p → B) : if decide p = true then A else B := by
  by_cases h : p
  · rw [if_pos (decide_eq_true h)]; exact h1 h
  · rw [if_neg (by simp [h])]; exact h2 h
theorem ite_nof {p A B : Prop} [Decidable p] (h1 : ¬ p → A) (h2 : p → B) : if (!decide p) = true then A else B := by
  by_cases h : p
  · rw [if_neg (by simp [h])]; exact h2 h
  · rw [if_pos (by simp [h])]; exact h1 h
theorem ite_b {b : Bool} {A B : Prop} (h1 : b = true → A) (h2 : b = false → B) : if b = true then A else B := by
  cases b with
  | true => rw [if_pos rfl]; exact h1 rfl
  | false => rw [if_neg Bool.false_ne_true]; exact h2 rfl
theorem ite_T {b : Bool} {A B : Prop} (e : b = true) (h1 : A) : if b = true then A else B := by rw [if_pos e]; exact h1
theorem ite_F {b : Bool} {A B : Prop} (e : b = false) (h1 : B) : if b = true then A else B := by rw [e, if_neg Bool.false_ne_true]; exact h1
/-! ### tables by names -/
/-- the dict of some names by a function -/
def dmap (ns : List Str) (f : Str → V) : List (Key × V) := ns.map fun n => (Sum.inr n, f n)
theorem valV_dmap {ns : List Str} {f : Str → V} {n : Str} (h : n ∈ ns) : valV (dmap ns f) (Sum.inr n : Key) = some (f n) := by
  induction ns with
  | nil => cases h
  | cons m r ih =>
    by_cases e : m = n
    · subst e; exact valV_pos (p := ((Sum.inr m : Key), f m)) rfl
    · have h' : n ∈ r := by
        rcases List.mem_cons.mp h with q | q
        · exact absurd q.symm e
        · exact q
      exact (valV_neg (p := ((Sum.inr m : Key), f m)) (fun q => e (Sum.inr.inj q))).trans (ih h')
theorem valV_dmap_not {ns : List Str} {f : Str → V} {n : Str} (h : ¬ n ∈ ns) : valV (dmap ns f) (Sum.inr n : Key) = none := by
  induction ns with
  | nil => rfl
  | cons m r ih =>
    have e : ¬ m = n := fun q => h (by rw [q]; exact List.mem_cons_self)
    exact (valV_neg (p := ((Sum.inr m : Key), f m)) (fun q => e (Sum.inr.inj q))).trans (ih fun q => h (List.mem_cons_of_mem _ q))
theorem valV_dmap_some {ns : List Str} {f : Str → V} {n : Str} : (valV (dmap ns f) (Sum.inr n : Key)).isSome = decide (n ∈ ns) := by
  by_cases h : n ∈ ns
  · rw [valV_dmap h]; simp [h]
  · rw [valV_dmap_not h]; simp [h]
def setF {α : Type} (f : Str → α) (n : Str) (v : α) : Str → α := fun m => if m = n then v else f m
theorem setF_same {α : Type} (f : Str → α) (n : Str) (v : α) : setF f n v n = v := if_pos rfl
theorem setF_ne {α : Type} (f : Str → α) {n m : Str} (v : α) (h : m ≠ n) : setF f n v m = f m := if_neg h
theorem putK_dmap {ns : List Str} {f : Str → V} {n : Str} {v : V} (h : n ∈ ns) : putK (dmap ns f) (Sum.inr n : Key) v = dmap ns (setF f n v) := by
  have ha : ((dmap ns f).any fun kv => decide (kv.1 = (Sum.inr n : Key))) = true := by
    rw [valV_any, valV_dmap h]; rfl
  unfold putK
  rw [if_pos ha]
  unfold dmap
  rw [List.map_map]
  refine List.map_congr_left fun m _ => ?_
  show (if (Sum.inr m : Key) = Sum.inr n then ((Sum.inr m : Key), v) else (Sum.inr m, f m)) = (Sum.inr m, setF f n v m)
  by_cases e : m = n
  · subst e; rw [if_pos rfl, setF_same]
  · rw [if_neg (fun q => e (Sum.inr.inj q)), setF_ne f v e]
theorem dmap_len (ns : List Str) (f : Str → V) : (dmap ns f).length = ns.length := List.length_map ..
theorem putF_get_same {f : Str} {v : V} {fs : List (Str × V)} : (putF f v fs).lookup f = some v := by rw [lookup_putF, if_pos rfl]
theorem putF_get_ne {f g : Str} {v : V} {fs : List (Str × V)} (h : ¬ g = f) : (putF f v fs).lookup g = fs.lookup g := by rw [lookup_putF, if_neg h]
theorem putF_len (f : Str) (v : V) : ∀ fs : List (Str × V), (putF f v fs).length ≤ fs.length + 1
  | [] => Nat.le_refl _
  | (g, x) :: r => by
    show (if g = f then (g, v) :: r else (g, x) :: putF f v r).length ≤ _
    by_cases e : g = f
    · rw [if_pos e]; simp
    · rw [if_neg e]; simp only [List.length_cons]; have := putF_len f v r; omega
end JB
namespace JB
open PySem L2
/-! rules with the written part named (within a comprehension nothing may hang on its frame) -/
section
variable {X : Cx}
theorem ix_listK (K : PySem.W.Frag) (h : X.K = K := by rfl) : IxR X (rIxL K) := h ▸ ix_list
theorem ix_tupK (K : PySem.W.Frag) (h : X.K = K := by rfl) : IxR X (rIxT K) := h ▸ ix_tup
theorem sl_listK (K : PySem.W.Frag) (h : X.K = K := by rfl) : SlR X (rSlL K) := h ▸ sl_list
theorem sl_tupK (K : PySem.W.Frag) (h : X.K = K := by rfl) : SlR X (rSlA K) := h ▸ sl_tupA
theorem op_inK (K : PySem.W.Frag) (h : X.K = K := by rfl) : OpR X (compareOp .In) (rIn K false) := h ▸ op_in_seq
theorem op_notInK (K : PySem.W.Frag) (h : X.K = K := by rfl) : OpR X (compareOp .NotIn) (rIn K true) := h ▸ op_notIn_seq
theorem op_eqDK (K : PySem.W.Frag) (hu : X.A.units + 64 < cLine) (h : X.K = K := by rfl) : OpR X (compareOp .Eq) (rEqD K) := h ▸ op_eqD hu
theorem op_neDK (K : PySem.W.Frag) (hu : X.A.units + 64 < cLine) (h : X.K = K := by rfl) : OpR X (compareOp .NotEq) (rNeD K) := h ▸ op_neD hu
theorem op_catK (K : PySem.W.Frag) (h : X.K = K := by rfl) : OpR X (binaryOp .Add) (rCatA K) := h ▸ op_catA
theorem pe_fldK (K : PySem.W.Frag) {e : Expr} {f : Str} {pos : Pos} {ta : TE} (he : PE X e ta) (hb : attributeBase e f X.env (eval e X.env) = eval e X.env) (h : X.K = K := by rfl) : PE X (.Attribute e f pos) (tFld K ta f) := by
  subst h; exact pe_fld he hb
theorem pg_tupK (K : PySem.W.Frag) {es : List Expr} {k : Nat} {pos : Pos} {t : TGs} {n : Nat} (hc : X.calm = true) (h : PGs X es t)
    (hn : (assignEach es X.env).length = n := by rfl) (hst : (assignEach es X.env).findIdx? (·.1) = none := by rfl) (hK : X.K = K := by rfl) : PG X (.Tuple es k pos) (gTup K n t) := by
  subst hK; exact pg_tup hc h hn hst
end
end JB
end
section
namespace JB
open PySem L2 PyProof.Rows
/-! zip of a tuple and a list -/
section
variable {prog : Program} {w : World} {A : Around} {E : Value → Shared → Prop} {s : Shared}
/-- the next of an iterator at i over what stands at l: x comes, Pre becomes Post; both stand where neither i nor l is touched -/
structure Nx (prog : Program) (w : World) (i l : Addr) (Pre Post : Heap → Prop) (x : Value) : Prop where
  go : ∀ (A : Around) (E : Value → Shared → Prop) (s : Shared) (Q : Value → Shared → Prop), Pre s.heap → (∀ h', Post h' → Heap.SameBut i s.heap h' → Q x { s with heap := h' }) → wpAny (model prog w) A (Builtin.SmallTypes.nextOf (.ref i)) Q E s
  pre : ∀ (h h' : Heap) (c : Addr), Pre h → Heap.ExtBut c h h' → i ≠ c → l ≠ c → Pre h'
  post : ∀ (h h' : Heap) (c : Addr), Post h → Heap.ExtBut c h h' → i ≠ c → Post h'
/-- .. nothing comes -/
structure Nn (prog : Program) (w : World) (i l : Addr) (Pre : Heap → Prop) : Prop where
  go : ∀ (A : Around) (E : Value → Shared → Prop) (s : Shared) (Q : Value → Shared → Prop), A.handled = none → Pre s.heap → (∀ h' e, Heap.ExtBut i s.heap h' → (∃ o, h'.get? e = some o ∧ o.cls = .type "StopIteration") → E (.ref e) { s with heap := h' }) → wpAny (model prog w) A (Builtin.SmallTypes.nextOf (.ref i)) Q E s
  pre : ∀ (h h' : Heap) (c : Addr), Pre h → Heap.ExtBut c h h' → i ≠ c → l ≠ c → Pre h'
theorem nxT {i l : Addr} {k : Nat} {xs : Array Value} {x : Value} (e : xs[k]? = some x) : Nx prog w i l (fun h => h.IsTupleIter i l k ∧ h.IsTuple l xs) (fun h => h.IsTupleIter i l (k + 1)) x :=
  ⟨fun A E s Q p q => RZ.nextOf_tuple_item p.1 p.2 e q, fun h h' c p b n1 n2 => ⟨p.1.extBut b n1, p.2.extBut b n2⟩, fun h h' c p b n => p.extBut b n⟩
theorem nxL {i l : Addr} {k : Nat} {xs : Array Value} {x : Value} (e : xs[k]? = some x) : Nx prog w i l (fun h => h.IsListIter i l k ∧ h.IsList l xs) (fun h => h.IsListIter i l (k + 1)) x :=
  ⟨fun A E s Q p q => wpAny_nextOf_list_item p.1 p.2 e q, fun h h' c p b n1 n2 => ⟨p.1.extBut b n1, p.2.extBut b n2⟩, fun h h' c p b n => p.extBut b n⟩
theorem nnT {i l : Addr} {k : Nat} {xs : Array Value} (e : xs[k]? = none) : Nn prog w i l (fun h => h.IsTupleIter i l k ∧ h.IsTuple l xs) :=
  ⟨fun A E s Q hh p q => RZ.nextOf_tuple_end hh p.1 p.2 e q, fun h h' c p b n1 n2 => ⟨p.1.extBut b n1, p.2.extBut b n2⟩⟩
theorem nnL {i l : Addr} {k : Nat} {xs : Array Value} (e : xs[k]? = none) : Nn prog w i l (fun h => h.IsListIter i l k ∧ h.IsList l xs) :=
  ⟨fun A E s Q hh p q => wpAny_nextOf_list_end hh p.1 p.2 e q, fun h h' c p b n1 n2 => ⟨p.1.extBut b n1, p.2.extBut b n2⟩⟩
/-- what stays where a zip at z with its parts moves on -/
def ZKeep (z o i j : Addr) (h h' : Heap) : Prop := ∀ c u, c ≠ z → c ≠ o → c ≠ i → c ≠ j → h.get? c = some u → h'.get? c = some u
section
variable {z p o i j l m : Addr} {a b x y : Value} {P1 P1' P2 P2' : Heap → Prop}
/-- a turn of zip: both parts come -/
theorem zM_item {Q : Value → Shared → Prop} (D : ZipApart z p o i j l m) (N1 : Nx prog w i l P1 P1' x) (N2 : Nx prog w j m P2 P2' y) (hz : IsZip s.heap z p o .none) (hp : IsPair s.heap p (.ref i) (.ref j)) (ho : IsPair s.heap o a b) (p1 : P1 s.heap) (p2 : P2 s.heap)
    (k : ∀ g, IsZip g z p o (rawInt s.heap.objs.size) → IsPair g o x y → P1' g → P2' g → IsPair g s.heap.objs.size x y → g.objs.size = s.heap.objs.size + 1 → ZKeep z o i j s.heap g → Q (.ref s.heap.objs.size) { s with heap := g }) :
    wpAny (model prog w) A (Builtin.«zip.__next__» ⟨[.ref z], []⟩) (fun fin s1 => ∃ v, fin = .done (.ret v) ∧ Q v s1) E s := by
  show wpAny _ _ (field (.ref z) 2 >>= _) _ _ _; refine wpAny_bind (wpAny_field hz rfl (x := .bool false) rfl ?_)
  show wpAny _ _ (field (.ref z) 3 >>= _) _ _ _; refine wpAny_bind (wpAny_field hz rfl (x := .ref p) rfl (wpAny_bind (wpAny_seqItems hp rfl ?_)))
  show wpAny _ _ (Builtin.SmallTypes.ownedTupleIsFree (.ref z) >>= _) _ _ _; unfold Builtin.SmallTypes.ownedTupleIsFree
  refine wpAny_bind (wpAny_bind (wpAny_field hz rfl (x := .none) rfl (wpAny_pure ?_))); simp only [if_true]
  refine wpAny_bind (wpAny_rule (wpAny_bind (wpAny_field hz rfl (x := .ref o) rfl (wpAny_bind (wpAny_setField_rec hz (by simp) fun g1 z1 b1 => wpAny_bind ?_)))))
  replace z1 : IsZip g1 z p o .ellipsis := z1
  have e1 := b1.extBut
  simp only [List.zipIdx_cons, List.zipIdx_nil, List.forIn_cons, List.forIn_nil]
  -- the first part
  refine wpAny_bind (wpAny_bind (wpAny_onRaise ?_)); show wpAny _ _ (Builtin.SmallTypes.nextOf (.ref i) >>= _) _ _ _
  refine wpAny_bind (N1.go _ _ _ _ (N1.pre _ _ _ p1 e1 D.i1z D.l1z) fun g2 q2 b2 => wpAny_pure ?_)
  have e2 := b2.extBut
  have o2 : IsPair g2 o a b := e2 _ _ D.TOi1 (e1 _ _ D.TOz ho)
  refine wpAny_bind (wpAny_seqItems o2 rfl (wpAny_bind (wpAny_updateSeq_pair o2 fun g3 o3 b3 => wpAny_bind (wpAny_letGo (wpAny_pure ?_)))))
  replace o3 : IsPair g3 o x b := o3
  have e3 := b3.extBut
  -- the second part
  refine wpAny_bind (wpAny_bind (wpAny_onRaise ?_)); show wpAny _ _ (Builtin.SmallTypes.nextOf (.ref j) >>= _) _ _ _
  refine wpAny_bind (N2.go _ _ _ _ (N2.pre _ _ _ (N2.pre _ _ _ (N2.pre _ _ _ p2 e1 D.i2z D.l2z) e2 D.i12.symm D.l2i1) e3 D.TOi2.symm D.l2TO) fun g4 q4 b4 => wpAny_pure ?_)
  have e4 := b4.extBut
  have o4 : IsPair g4 o x b := e4 _ _ D.TOi2 o3
  refine wpAny_bind (wpAny_seqItems o4 rfl (wpAny_bind (wpAny_updateSeq_pair o4 fun g5 o5 b5 => wpAny_bind (wpAny_letGo (wpAny_pure (wpAny_pure ?_))))))
  replace o5 : IsPair g5 o x y := o5
  have e5 := b5.extBut
  refine wpAny_bind (wpAny_seqItems o5 rfl (wpAny_bind (wpAny_newTuple ?_)))
  have size5 : g5.objs.size = s.heap.objs.size := by rw [b5.1, b4.1, b3.1, b2.1, b1.1]
  have z5 : IsZip g5 z p o .ellipsis := e5 _ _ D.TOz.symm (e4 _ _ D.i2z.symm (e3 _ _ D.TOz.symm (e2 _ _ D.i1z.symm z1)))
  have k5 : ZKeep z o i j s.heap g5 := fun c u n1 n2 n3 n4 h => e5 _ _ n2 (e4 _ _ n4 (e3 _ _ n2 (e2 _ _ n3 (e1 _ _ n1 h))))
  have r1 : P1' g5 := N1.post _ _ _ (N1.post _ _ _ (N1.post _ _ _ q2 e3 D.TOi1.symm) e4 D.i12) e5 D.TOi1.symm
  have r2 : P2' g5 := N2.post _ _ _ q4 e5 D.TOi2.symm
  have lt : z < g5.objs.size := Heap.lt_size z5
  show wpAny _ _ (Builtin.SmallTypes.ownedTupleHandOut (.ref z) (.ref g5.objs.size) >>= _) _ _ _; unfold Builtin.SmallTypes.ownedTupleHandOut
  have z6 : IsZip (g5.push { cls := .type "tuple", data := .seq #[x, y] }) z p o .ellipsis := Heap.get?_push_of_some _ z5
  refine wpAny_bind (wpAny_bind (wpAny_setField_rec z6 (by simp) fun g7 z7 b7 => ?_))
  replace z7 : IsZip g7 z p o (rawInt g5.objs.size) := z7
  refine wpAny_setField_rec z7 (by simp) fun g8 z8 b8 => ?_
  replace z8 : IsZip g8 z p o (rawInt g5.objs.size) := z8
  have to8 : Heap.ExtBut z g5 g8 := fun c u n h => b8.extBut _ _ n (b7.extBut _ _ n (Heap.get?_push_of_some _ h))
  have new8 : IsPair g8 g5.objs.size x y := b8.extBut _ _ (Nat.ne_of_gt lt) (b7.extBut _ _ (Nat.ne_of_gt lt) (Heap.get?_push_size _ rfl))
  have size8 : g8.objs.size = g5.objs.size + 1 := by rw [b8.1, b7.1, Heap.size_push]
  rw [size5] at z8 new8 size8
  refine wpAny_pure ⟨.ref g5.objs.size, rfl, ?_⟩
  rw [size5]
  exact k g8 z8 (to8 _ _ D.TOz o5) (N1.post _ _ _ r1 to8 D.i1z) (N2.post _ _ _ r2 to8 D.i2z) new8 size8 fun c u n1 n2 n3 n4 h => to8 _ _ n1 (k5 c u n1 n2 n3 n4 h)
/-- .. one of them doesn't -/
theorem zM_end {Q : Fin → Shared → Prop} (hh : A.handled = none) (D : ZipApart z p o i j l m) (N : Nn prog w i l P1 ∨ ∃ x, Nx prog w i l P1 P1' x ∧ Nn prog w j m P2) (hz : IsZip s.heap z p o .none) (hp : IsPair s.heap p (.ref i) (.ref j)) (ho : IsPair s.heap o a b) (p1 : P1 s.heap) (p2 : P2 s.heap)
    (k : ∀ g e, ZKeep z o i j s.heap g → (∃ u, g.get? e = some u ∧ u.cls = .type "StopIteration") → E (.ref e) { s with heap := g }) : wpAny (model prog w) A (Builtin.«zip.__next__» ⟨[.ref z], []⟩) Q E s := by
  show wpAny _ _ (field (.ref z) 2 >>= _) _ _ _; refine wpAny_bind (wpAny_field hz rfl (x := .bool false) rfl ?_)
  show wpAny _ _ (field (.ref z) 3 >>= _) _ _ _; refine wpAny_bind (wpAny_field hz rfl (x := .ref p) rfl (wpAny_bind (wpAny_seqItems hp rfl ?_)))
  show wpAny _ _ (Builtin.SmallTypes.ownedTupleIsFree (.ref z) >>= _) _ _ _; unfold Builtin.SmallTypes.ownedTupleIsFree
  refine wpAny_bind (wpAny_bind (wpAny_field hz rfl (x := .none) rfl (wpAny_pure ?_))); simp only [if_true]
  refine wpAny_bind (wpAny_rule (wpAny_bind (wpAny_field hz rfl (x := .ref o) rfl (wpAny_bind (wpAny_setField_rec hz (by simp) fun g1 z1 b1 => wpAny_bind ?_)))))
  replace z1 : IsZip g1 z p o .ellipsis := z1
  have e1 := b1.extBut
  have apart : ∀ {g : Heap} {e : Addr}, IsZip g z p o .ellipsis → (∃ u, g.get? e = some u ∧ u.cls = .type "StopIteration") → e ≠ z := fun hg ⟨u, h1, h2⟩ q => by
    subst q; rw [hg] at h1; cases h1; simp at h2
  simp only [List.zipIdx_cons, List.zipIdx_nil, List.forIn_cons, List.forIn_nil]
  refine wpAny_bind (wpAny_bind (wpAny_onRaise ?_)); show wpAny _ _ (Builtin.SmallTypes.nextOf (.ref i) >>= _) _ _ _
  rcases N with N | ⟨x, N1, N2⟩
  · refine wpAny_bind (N.go _ _ _ _ hh (N.pre _ _ _ p1 e1 D.i1z D.l1z) fun g2 e e2 he => ?_)
    have z2 : IsZip g2 z p o .ellipsis := e2 _ _ D.i1z.symm z1
    have ne := apart z2 he
    obtain ⟨u, h1, h2⟩ := he
    exact wpAny_setField_rec z2 (by simp) fun g3 _ b3 => k g3 e (fun c u n1 _ n3 _ h => b3.extBut _ _ n1 (e2 _ _ n3 (e1 _ _ n1 h))) ⟨u, b3.extBut _ _ ne h1, h2⟩
  · refine wpAny_bind (N1.go _ _ _ _ (N1.pre _ _ _ p1 e1 D.i1z D.l1z) fun g2 q2 b2 => wpAny_pure ?_)
    have e2 := b2.extBut
    have o2 : IsPair g2 o a b := e2 _ _ D.TOi1 (e1 _ _ D.TOz ho)
    refine wpAny_bind (wpAny_seqItems o2 rfl (wpAny_bind (wpAny_updateSeq_pair o2 fun g3 o3 b3 => wpAny_bind (wpAny_letGo (wpAny_pure ?_)))))
    have e3 := b3.extBut
    refine wpAny_bind (wpAny_bind (wpAny_onRaise ?_)); show wpAny _ _ (Builtin.SmallTypes.nextOf (.ref j) >>= _) _ _ _
    refine wpAny_bind (N2.go _ _ _ _ hh (N2.pre _ _ _ (N2.pre _ _ _ (N2.pre _ _ _ p2 e1 D.i2z D.l2z) e2 D.i12.symm D.l2i1) e3 D.TOi2.symm D.l2TO) fun g4 e e4 he => ?_)
    have z4 : IsZip g4 z p o .ellipsis := e4 _ _ D.i2z.symm (e3 _ _ D.TOz.symm (e2 _ _ D.i1z.symm z1))
    have ne := apart z4 he
    obtain ⟨u, h1, h2⟩ := he
    exact wpAny_setField_rec z4 (by simp) fun g5 _ b5 => k g5 e (fun c u n1 n2 n3 n4 h => b5.extBut _ _ n1 (e4 _ _ n4 (e3 _ _ n2 (e2 _ _ n3 (e1 _ _ n1 h))))) ⟨u, b5.extBut _ _ ne h1, h2⟩
/-- the same by next(z) -/
theorem zM_next {Q : Option Value → Shared → Prop} (D : ZipApart z p o i j l m) (N1 : Nx prog w i l P1 P1' x) (N2 : Nx prog w j m P2 P2' y) (hz : IsZip s.heap z p o .none) (hp : IsPair s.heap p (.ref i) (.ref j)) (ho : IsPair s.heap o a b) (p1 : P1 s.heap) (p2 : P2 s.heap)
    (k : ∀ g, IsZip g z p o (rawInt s.heap.objs.size) → IsPair g o x y → P1' g → P2' g → IsPair g s.heap.objs.size x y → g.objs.size = s.heap.objs.size + 1 → ZKeep z o i j s.heap g → Q (some (.ref s.heap.objs.size)) { s with heap := g }) : wpAny (model prog w) A (pyNext (.ref z)) Q E s := by
  have ty : s.TypeIs (.ref z) "zip" := ⟨_, hz, rfl⟩
  unfold pyNext
  refine wpAny_bind (wpAny_attempt (wpAny_callSpecial?_slot (name := Str.ofString "__next__") ty F.slot_zip_next (wpAny_call_entry F.slot_zip_next ty F.entry_zip_next ?_ (F.args_zip_next_1 _))))
  exact zM_item D N1 N2 hz hp ho p1 p2 fun g a1 a2 a3 a4 a5 a6 a7 => wpAny_pure (k g a1 a2 a3 a4 a5 a6 a7)
theorem zM_stop {Q : Option Value → Shared → Prop} (hh : A.handled = none) (D : ZipApart z p o i j l m) (N : Nn prog w i l P1 ∨ ∃ x, Nx prog w i l P1 P1' x ∧ Nn prog w j m P2) (hz : IsZip s.heap z p o .none) (hp : IsPair s.heap p (.ref i) (.ref j)) (ho : IsPair s.heap o a b) (p1 : P1 s.heap) (p2 : P2 s.heap)
    (k : ∀ g, ZKeep z o i j s.heap g → Q none { s with heap := g }) : wpAny (model prog w) A (pyNext (.ref z)) Q E s := by
  have ty : s.TypeIs (.ref z) "zip" := ⟨_, hz, rfl⟩
  unfold pyNext
  refine wpAny_bind (wpAny_attempt (wpAny_callSpecial?_slot (name := Str.ofString "__next__") ty F.slot_zip_next (wpAny_call_entry F.slot_zip_next ty F.entry_zip_next ?_ (F.args_zip_next_1 _))))
  refine zM_end hh D N hz hp ho p1 p2 fun g e hk ⟨u, h1, h2⟩ => wpAny_bind (wpAny_isInstance (T := "StopIteration") (b := true) ⟨u, h1, h2⟩ isSubtype_stop ?_)
  exact wpAny_pure (k _ hk)
end
end
abbrev zm1 (h : Heap) (l : Addr) : Heap := h.push { cls := .type "tuple_iterator", data := .fields #[.ref l, .int 0 0] }
abbrev zm2 (h : Heap) (l m : Addr) : Heap := (zm1 h l).push { cls := .type "list_iterator", data := .fields #[.ref m, .int 0 0] }
abbrev zm3 (h : Heap) (l m : Addr) : Heap := (zm2 h l m).push { cls := .type "tuple", data := .seq #[.ref h.objs.size, .ref (zm1 h l).objs.size] }
abbrev zm4 (h : Heap) (l m : Addr) : Heap := (zm3 h l m).push { cls := .type "tuple", data := .seq #[.none, .none] }
abbrev zm5 (h : Heap) (l m : Addr) : Heap := (zm4 h l m).push { cls := .type "zip", data := .fields #[.none, .bool false, .bool false, .ref (zm2 h l m).objs.size, .ref (zm3 h l m).objs.size] }
theorem zM_new (l m : Addr) (xs ys : Array Value) : Meets (Builtin.«zip.__new__» ⟨[.type "zip", .ref l, .ref m], []⟩) (fun _ R s => s.heap.IsTuple l xs ∧ s.heap.IsList m ys ∧ R (.ok (.ret (.ref (zm4 s.heap l m).objs.size))) { s with heap := zm5 s.heap l m }) :=
  .of_wp fun prog w A R s h => by
    obtain ⟨hp, g, d, tk, os⟩ := s
    obtain ⟨h1, h2, h⟩ := h
    have sub := sub_zip
    have H1 : Heap.IsTuple (Shared.heap ⟨hp, g, d, tk, os⟩) l xs := h1
    have H2 : Heap.IsList (Shared.heap ⟨zm1 hp l, g, d, tk, os⟩) m ys := Heap.IsList.push h2 _
    wp_walk using wpAny_pyIter_tuple H1, wpAny_pyIter_list H2
    exact ⟨_, rfl, h⟩
section
variable {prog : Program} {w : World} {A : Around} {E : Value → Shared → Prop} {s : Shared}
theorem zM_call {l m : Addr} {xs ys : Array Value} {Q : Value → Shared → Prop} (h1 : s.heap.IsTuple l xs) (h2 : s.heap.IsList m ys)
    (k : ∀ g, IsZip g (s.heap.objs.size + 4) (s.heap.objs.size + 2) (s.heap.objs.size + 3) .none → IsPair g (s.heap.objs.size + 2) (.ref s.heap.objs.size) (.ref (s.heap.objs.size + 1)) → IsPair g (s.heap.objs.size + 3) .none .none →
      g.IsTupleIter s.heap.objs.size l 0 → g.IsListIter (s.heap.objs.size + 1) m 0 → (∀ c u, s.heap.get? c = some u → g.get? c = some u) → Q (.ref (s.heap.objs.size + 4)) { s with heap := g }) : wpAny (model prog w) A (call (.type "zip") [.ref l, .ref m]) Q E s := by
  refine callType_new F.called_zip (by decide) (F.typeCall_zip_2 _ _) (F.newCall_zip_2 _ _) (fun obj => F.args_object_init_3 obj _ _) F.entry_zip_new (zM_new l m xs ys) ⟨h1, h2, ?_⟩
  have n1 : (zm1 s.heap l).objs.size = s.heap.objs.size + 1 := Heap.size_push ..
  have n2 : (zm2 s.heap l m).objs.size = s.heap.objs.size + 2 := by rw [Heap.size_push, n1]
  have n3 : (zm3 s.heap l m).objs.size = s.heap.objs.size + 3 := by rw [Heap.size_push, n2]
  have n4 : (zm4 s.heap l m).objs.size = s.heap.objs.size + 4 := by rw [Heap.size_push, n3]
  have up : ∀ {h : Heap} {u : Obj} {c : Addr} {v : Obj}, h.get? c = some v → (h.push u).get? c = some v := fun e => Heap.get?_push_of_some _ e
  have a5 : (zm5 s.heap l m).get? (zm4 s.heap l m).objs.size = some _ := Heap.get?_push_size _ rfl
  have a4 : (zm5 s.heap l m).get? (zm3 s.heap l m).objs.size = some _ := up (Heap.get?_push_size _ rfl)
  have a3 : (zm5 s.heap l m).get? (zm2 s.heap l m).objs.size = some _ := up (up (Heap.get?_push_size _ rfl))
  have a2 : (zm5 s.heap l m).get? (zm1 s.heap l).objs.size = some _ := up (up (up (Heap.get?_push_size _ rfl)))
  have a1 : (zm5 s.heap l m).get? s.heap.objs.size = some _ := up (up (up (up (Heap.get?_push_size _ rfl))))
  show _ ∧ _
  rw [n2, n3, n4] at a5
  rw [n1, n2] at a3
  rw [n3] at a4
  rw [n1] at a2
  rw [n4]
  exact ⟨⟨_, a5, rfl⟩, k _ a5 a3 a4 ⟨_, a1, rfl, rfl⟩ ⟨_, a2, rfl, rfl⟩ fun c u e => up (up (up (up (up e))))⟩
end
def ItzM (K : PySem.W.Frag) (a b : Addr) : It :=
  ⟨fun i H => ∃ (xs ys : List V) (x y : V), SqT K H a xs ∧ SqL K H b ys ∧ xs[i]? = some x ∧ ys[i]? = some y,
    fun i H v H' => ∃ T x y, v = .ref T ∧ H T = none ∧ H' = upd H T (.tup [x, y]) ∧ (∀ xs, SqT K H a xs → xs[i]? = some x) ∧ ∀ ys, SqL K H b ys → ys[i]? = some y,
    fun i H => ∃ xs ys : List V, SqT K H a xs ∧ SqL K H b ys ∧ (xs.length ≤ i ∨ ys.length ≤ i)⟩
theorem zM_turn {P : Program} {w : World} {K : PySem.W.Frag} {elts : List Expr} {kk : Nat} {tpos : Pos} {a b z p o i j : Addr} (D : ZipApart z p o i j a b) :
    Turn P w K (.Tuple elts kk tpos) (ItzM K a b) [z, p, o, i, j] z (fun n h => IsZip h z p o .none ∧ IsPair h p (.ref i) (.ref j) ∧ (∃ x y, IsPair h o x y) ∧ h.IsTupleIter i a n ∧ h.IsListIter j b n) where
  mem := by simp
  obj := fun n h st c hc => by
    obtain ⟨hz, hp, ⟨x, y, ho⟩, ⟨u1, e1, _, d1⟩, ⟨u2, e2, _, d2⟩⟩ := st
    simp only [List.mem_cons, List.not_mem_nil, or_false] at hc
    rcases hc with rfl | rfl | rfl | rfl | rfl
    · exact ⟨_, hz, nofun⟩
    · exact ⟨_, hp, nofun⟩
    · exact ⟨_, ho, nofun⟩
    · exact ⟨u1, e1, fun v q => by rw [d1] at q; cases q⟩
    · exact ⟨u2, e2, fun v q => by rw [d2] at q; cases q⟩
  keep := fun n h h' ⟨hz, hp, ⟨x, y, ho⟩, h1, h2⟩ k =>
    ⟨k z (by simp) _ hz, k p (by simp) _ hp, ⟨x, y, k o (by simp) _ ho⟩, h1.at fun u q => k i (by simp) u q, h2.at fun u q => k j (by simp) u q⟩
  item := by
    intro X hP hw hK hc n pins s σ H E I hf st hg
    subst hP hw hK
    obtain ⟨hz, hp, ⟨x0, y0, ho⟩, h1, h2⟩ := st
    obtain ⟨xs, ys, x, y, hqx, hqy, hx, hy⟩ := hg
    obtain ⟨its, rv, p1, _⟩ := I.tuple hqx
    obtain ⟨its2, rv2, p2, _⟩ := I.list hqy
    obtain ⟨u, hu, ru⟩ := rv.get hx
    obtain ⟨u2, hu2, ru2⟩ := rv2.get hy
    have lt : z < s.heap.objs.size := Heap.lt_size hz
    refine zM_next D (nxT (xs := its.toArray) (x := u) (by simpa using hu)) (nxL (xs := its2.toArray) (x := u2) (by simpa using hu2)) hz hp ho ⟨h1, p1⟩ ⟨h2, p2.isList⟩ fun g z' o' i' j' hT size k => ?_
    refine ⟨_, rfl, wpAny_letOwnedTupleGo_zip (s := { s with heap := g }) z' fun g2 z2 sb => ?_⟩
    have hT2 : IsPair g2 s.heap.objs.size u u2 := (sb.2 _ (Nat.ne_of_gt lt)).trans hT
    have I1 : Inv X pins σ (upd H s.heap.objs.size (.tup [x, y])) { s with heap := g2 } := by
      refine I.turnedNew (t' := s.toks) (ch := [z, p, o, i, j]) (fun c v hb q => ?_) hf (Nat.le_refl _) ⟨by show 2 ≤ sizeLine; decide, [u, u2], .cons ru (.cons ru2 .nil), ⟨_, hT2, rfl, _, rfl⟩⟩
      simp only [List.mem_cons, List.not_mem_nil, or_false, not_or] at hb
      exact (sb.2 c hb.1).trans (k c v hb.1 hb.2.2.1 hb.2.2.2.1 hb.2.2.2.2 q)
    refine ⟨.ref s.heap.objs.size, _, I1, rfl, ⟨_, x, y, rfl, I.hok.fresh (Nat.le_refl _), rfl, fun l hl => by rw [I.tuple_inj hl hqx]; exact hx, fun l hl => by rw [I.list_inj hl hqy]; exact hy⟩, ⟨z2, ?_, ⟨u, u2, (sb.2 _ D.TOz).trans o'⟩, i'.at fun v q => (sb.2 _ D.i1z).trans q, j'.at fun v q => (sb.2 _ D.i2z).trans q⟩, fun c hcm => ?_⟩
    · exact (sb.2 _ D.TIz).trans (k _ _ D.TIz D.TITO D.TIi1 D.TIi2 hp)
    · have hlt : c < s.heap.objs.size := by
        have hm := hcm
        simp only [List.mem_cons, List.not_mem_nil, or_false] at hm
        obtain ⟨v1, e1, _⟩ := h1
        obtain ⟨v2, e2, _⟩ := h2
        rcases hm with rfl | rfl | rfl | rfl | rfl
        · exact lt
        · exact Heap.lt_size hp
        · exact Heap.lt_size ho
        · exact Heap.lt_size e1
        · exact Heap.lt_size e2
      rw [upd_ne (Nat.ne_of_lt hlt)]
      exact (hf c hcm).1
  done := by
    intro X hP hw hK hc n pins s σ H E I hf st hg
    subst hP hw hK
    obtain ⟨hz, hp, ⟨x0, y0, ho⟩, h1, h2⟩ := st
    obtain ⟨xs, ys, hqx, hqy, hend⟩ := hg
    obtain ⟨its, rv, p1, _⟩ := I.tuple hqx
    obtain ⟨its2, rv2, p2, _⟩ := I.list hqy
    have l1 := rv.length
    have l2 := rv2.length
    have N : Nn X.prog X.w i a (fun h => h.IsTupleIter i a n ∧ h.IsTuple a its.toArray) ∨ ∃ x, Nx X.prog X.w i a (fun h => h.IsTupleIter i a n ∧ h.IsTuple a its.toArray) (fun h => h.IsTupleIter i a (n + 1)) x ∧ Nn X.prog X.w j b (fun h => h.IsListIter j b n ∧ h.IsList b its2.toArray) := by
      by_cases q : its.length ≤ n
      · exact .inl (nnT (by simp; omega))
      · exact .inr ⟨its[n]'(by omega), nxT (by first | (simp; done) | (simp; omega)), nnL (by first | (simp; done) | (simp; omega))⟩
    refine zM_stop (I.ok.hd hc) D N hz hp ho ⟨h1, p1⟩ ⟨h2, p2.isList⟩ fun g k => ⟨rfl, I.turnedL (t' := s.toks) (ch := [z, p, o, i, j]) (fun c v hb q => ?_) hf⟩
    simp only [List.mem_cons, List.not_mem_nil, or_false, not_or] at hb
    exact k c v hb.1 hb.2.2.1 hb.2.2.2.1 hb.2.2.2.2 q
  self := fun A n s Q E st h => wpAny_pyIter_zip st.1 h
def iZipM (K : PySem.W.Frag) (ta : TA) : TI := fun σ H R => ta σ H fun vs H1 => ∃ a b xs ys, vs = [.ref a, .ref b] ∧ SqT K H1 a xs ∧ SqL K H1 b ys ∧ R (ItzM K a b) H1
theorem pi_zipM {X : Cx} {e e2 : Expr} {ta : TA} {p pos tpos : Pos} {elts : List Expr} {kk : Nat} (hg : Gl X "zip") (hm : X.mg "zip" = none) (ha : PA X [e, e2] ta)
    (hs : starEach [e, e2] X.env = (false, eval e X.env) :: starEach [e2] X.env := by rfl) (hpl : (backTo pos (starEach [e2] X.env)).any (·.1) = false := by rfl) :
    PI X (.Tuple elts kk tpos) (.Call (.Name "zip" p) [e, e2] [] pos) (iZipM X.K ta) := by
  refine ⟨fun pins s σ H R I h => ?_⟩
  refine Call_ (ld_blt I hg hm boot_zip (callWith_type1 (thn (ha.run pos pins s σ H _ I h) fun us s1 ⟨vs, H1, I1, r1, a, b, xs, ys, ex, hqx, hqy, q⟩ => ?_) hs hpl))
  subst ex
  obtain ⟨u1, u2, rfl, ra, rb⟩ : ∃ u1 u2, us = [u1, u2] ∧ RelV (.ref a) u1 ∧ RelV (.ref b) u2 := by
    cases r1 with
    | cons r rr => cases rr with
      | cons r' rr => cases rr; exact ⟨_, _, rfl, r, r'⟩
  cases ra
  cases rb
  obtain ⟨its, rv, p1, _⟩ := I1.tuple hqx
  obtain ⟨its2, rv2, p2, _⟩ := I1.list hqy
  obtain ⟨o1, ho1, _⟩ := id p1
  have fresh : ∀ c, c ∈ [s1.heap.objs.size + 4, s1.heap.objs.size + 2, s1.heap.objs.size + 3, s1.heap.objs.size, s1.heap.objs.size + 1] → FpOk X pins H1 c := fun c hcm => by
    have hle : s1.heap.objs.size ≤ c := by
      simp only [List.mem_cons, List.not_mem_nil, or_false] at hcm
      rcases hcm with rfl | rfl | rfl | rfl | rfl <;> first | exact Nat.le_add_right _ _ | exact Nat.le_refl _
    exact I1.fpOk hle (I1.hok.fresh hle)
  refine zM_call (xs := its.toArray) (ys := its2.toArray) p1 p2.isList fun g hz hp ho h1 h2 k => wpAny_pyIter_zip hz ?_
  have I2 : Inv X pins σ H1 { s1 with heap := g } := I1.kept (t' := s1.toks) k
  exact ⟨s1.heap.objs.size + 4, [s1.heap.objs.size + 4, s1.heap.objs.size + 2, s1.heap.objs.size + 3, s1.heap.objs.size, s1.heap.objs.size + 1], _, _, H1, rfl, I2, zM_turn (PySem.W.ktu_apart s1.heap.objs.size a b (Heap.lt_size ho1) p2.lt), ⟨hz, hp, ⟨_, _, ho⟩, h1, h2⟩, fresh, q⟩
end JB
end
section
namespace JB
open PySem L2 PyProof.Rows
/-! rules that the layer lacks (stubs) -/
section
variable {X : Cx}
theorem foldl_arr : ∀ (l : List (Array Nat)) (acc : Array Nat), (l.foldl (· ++ ·) acc).toList = acc.toList ++ (l.map (·.toList)).flatten
  | [], acc => by simp
  | a :: r, acc => by
    rw [List.foldl_cons, foldl_arr r (acc ++ a)]
    simp
theorem mul_flat (z : Str) (k : Int) : Txt.mul z k = ⟨(List.replicate k.toNat z.cps.toList).flatten.toArray⟩ := by
  unfold Txt.mul
  by_cases h : k < 1
  · rw [if_pos h]
    have : k.toNat = 0 := by omega
    rw [this]; rfl
  · rw [if_neg h]
    by_cases h2 : (k == 1 || z.length == 0) = true
    · rw [if_pos h2]
      rw [Bool.or_eq_true] at h2
      rcases h2 with h2 | h2
      · have : k = 1 := by simpa using h2
        subst this
        cases z
        simp
      · have h3 : z.length = 0 := by simpa using h2
        have h3 : z.cps.size = 0 := h3
        have h4 : z.cps = #[] := Array.size_eq_zero_iff.mp h3
        cases z
        simp only at h4
        subst h4
        simp
    · rw [if_neg h2]
      congr 1
      apply Array.toList_inj.mp
      rw [foldl_arr]
      simp
def rRepS : R2 := fun x y H Q => ∃ (z : Str) (k : Int), x = .str z ∧ y = .int k ∧ z.length * k.toNat ≤ 1000000 ∧ z.length ≤ 1000 ∧ k ≤ 1000 ∧ 0 ≤ k ∧ Q (.str ⟨(List.replicate k.toNat z.cps.toList).flatten.toArray⟩) H
theorem op_repS : OpR X (binaryOp .Mult) rRepS := by
  intro pins s σ H x y v u Q I rx ry h
  obtain ⟨z, k, rfl, rfl, _, hz, hk, h0, q⟩ := h
  obtain ⟨t, rfl⟩ := rx
  obtain ⟨t2, rfl⟩ := ry
  rw [← mul_flat] at q
  exact SB.mul (PyProof.Rows.mulOk_of 1000 1000 hz hk (by omega) (by decide) (by decide)) fun t' k => ⟨.str _, H, I.tok _, ⟨_, rfl⟩, q⟩
theorem call_sortedDN (hcalm : X.calm = true) : CallR X (.builtin "sorted") (fun xs H Q => ∃ (a : Addr) (kvs : List (Key × V)) (ks : List Int), xs = [.ref a] ∧ Rd H a (.dK kvs) ∧ kvs.map (·.1) = ks.map Sum.inl ∧
    ∀ (ys : List Int) (p : Addr), ys.Perm ks → ys.Pairwise (· ≤ ·) → H p = none → Q (.ref p) (upd H p (.lst (ys.map V.int)))) := by
  intro pins s σ H xs us Q I r ⟨a, kvs, ks, ex, hd, hks, q⟩
  subst ex
  rw [Vals.ref1 r]
  obtain ⟨z, lo, vs, rel, dd⟩ := dk_rd I.hok hd
  obtain ⟨ep, hat⟩ := dd.dictAt
  have hkeys : vs.map (·.1) = ks.map Sum.inl := by rw [← hks]; exact rel.keys.symm
  have hl : vs.length = ks.length := by
    have := congrArg List.length hkeys
    simpa using this
  have hlz : ks.length ≤ sizeLine := by
    have := rel.length
    rw [← hl, ← this]
    exact z
  refine Calls.call_function_entry kind_sorted plain_sorted entry_sorted (args_sorted1 _) ?_
  unfold Builtin.«sorted»
  refine wpAny_bind (m := checkCount "sorted" 1 1 _) (wpAny_pure ?_)
  refine wpAny_bind (W.kdu_collect (A := X.A.in1) (W.kdl_dict (knd := mixKind X.prog X.w) (kvs := vs) (ep := ep) lo) (I.ok.hd hcalm) hat (hl ▸ hlz) fun h' tk acc hk hacc => ?_)
  have hal : acc.toList.length = ks.length := by rw [Array.length_toList]; exact hacc.1.trans hl
  have hS : IntsAre acc.toList ks := by
    refine ints_each hal fun j v e => ?_
    obtain ⟨k, x, e1, e2⟩ := hacc.2 j v (by rw [← Array.getElem?_toList, e])
    have e3 : (ks.map Sum.inl)[j]? = some k := by rw [← hkeys, List.getElem?_map, e1]; rfl
    rw [List.getElem?_map, Option.map_eq_some_iff] at e3
    obtain ⟨y, e4, rfl⟩ := e3
    rcases keyIs_shape (show keyIs (Sum.inl y) v = true from e2) with ⟨i, t, ek, ev⟩ | ⟨i, t, ek, ev⟩ <;> cases ek
    exact ⟨y, t, e4, ev⟩
  have I1 : Inv X pins σ H { s with heap := h', toks := tk } := I.kept hk
  refine wpAny_bind (wpAny_newList ?_ (hal ▸ hlz))
  have hoL : (h'.push (seqObj "list" acc.toList.toArray 0)).get? h'.objs.size = some (seqObj "list" acc.toList.toArray 0) := Heap.get?_push_size _ rfl
  show wpAny _ _ _ _ _ { s with heap := h'.push (seqObj "list" acc.toList.toArray 0), toks := tk }
  refine wpAny_bind (wpAny_holding (wpAny_call_entry slot_list_sort ⟨_, hoL, rfl⟩ entry_list_sort
    (SrtO.list_sort_ord SrtO.swo_int hoL (hal ▸ hlz) (fun h2 => SrtO.ints_sortable hS h2) fun out h1 h2 => ⟨.none, rfl, ?_⟩) (args_list_sort _)))
  obtain ⟨k1, k2, k3⟩ := SrtO.ints_out hS h1 h2
  obtain ⟨e2, hn2⟩ := sortedHeap_at (vs := acc.toList) (out := out.toArray) hoL
  have hlen : ((out.map SrtO.iv).map V.int).length ≤ sizeLine := by
    rw [List.length_map, k2.length_eq]; exact hlz
  refine wpAny_pure ⟨_, rfl, .ref h'.objs.size, upd H h'.objs.size (.lst ((out.map SrtO.iv).map V.int)),
    I1.laid (t' := tk) (fun b u e => ?_) (Nat.le_refl _) ⟨hlen, out, e2, vals_of_ints k1, hn2⟩, rfl, q _ _ k2 k3 (I1.hok.fresh (Nat.le_refl _))⟩
  have hb : b < h'.objs.size := Heap.lt_size e
  have hb2 : b < (h'.push (seqObj "list" acc.toList.toArray 0)).objs.size := by rw [size_push']; exact Nat.lt_succ_of_lt hb
  rw [sortedHeap_old (Nat.ne_of_lt hb) hb2]
  exact Heap.get?_push_of_some _ e
def rRemD (K : PySem.W.Frag) : V → List V → Hp → VK → Prop := fun x vs H Q => ∃ (l : Addr) (xs : List V) (y : V) (d : PyData) (ds : List PyData) (j : Nat), x = .ref l ∧ vs = [y] ∧ H l = some (.lst xs) ∧ DpAll K H xs ds ∧ Dp K H y d ∧
  d.canLay0 = true ∧ PyData.canLayAll0 ds = true ∧ d.depth ≤ 60 ∧ SeqAt.dataPlace ds d = some j ∧ Q .non (upd H l (.lst (xs.eraseIdx j)))
theorem mt_removeD (hu : X.A.units + 64 < cLine) : MtR X "list.remove" (rRemD X.K) := by
  intro pins s σ H x vs v us Q I rx rxs h
  obtain ⟨l, xs, y, d, ds, j, rfl, rfl, hH, hds, hd, c1, c2, hdep, hp, q⟩ := h
  cases rx
  obtain ⟨u, rfl, ru⟩ := rxs.one
  obtain ⟨z, its, n, r, hob⟩ := I.hok l _ hH
  obtain ⟨as, r1⟩ := Dp.readsAll I ds xs _ hds r
  obtain ⟨bs, r2⟩ := Dp.reads I d y u hd ru
  have hl : s.heap.IsList l its.toArray := ⟨_, hob, rfl, n, rfl⟩
  refine SeqAt.remove_list_data hl r1 r2 (PyData.plainAll_of_canLay0 ds c2) (PyData.plain_of_canLay0 d c1) (by omega) hp (by rw [List.size_toArray, ← r.length]; exact z) ?_
  refine ⟨.non, _, I.lset (its' := its.eraseIdx j) (t' := s.toks) hH hob ?_ (r.eraseIdx j) ?_, rfl, q⟩
  · show its.toArray.eraseIdxIfInBounds j = (its.eraseIdx j).toArray
    rw [List.eraseIdxIfInBounds_toArray]
  · have := List.length_eraseIdx_le xs j
    omega
/-- FORMS.get(word), there -/
def tFormsGet (K : PySem.W.Frag) (d : Addr) (ty : TE) : TE := fun σ H Q => ty σ H fun y H2 => ∃ (z : Str) (u : Value) (v : V), y = .str z ∧ PySem.W.nsIn K d z = some (some u) ∧ RelV v u ∧ Q v H2
theorem pe_formsget {e : Expr} {ty : TE} {p apos cpos : Pos} {d : Addr} {es : Array DictEntry} {n : Nat} (hm : X.mg "FORMS" = some (.ref d)) (D : KDict X.K X.w d es n) (he : PE X e ty) (hg : Gl X "FORMS" := by rfl) (m : M1 X (.Name "FORMS" p) "get" apos e cpos := by exact ⟨rfl, rfl, rfl, rfl⟩) :
    PE X (.Call (.Attribute (.Name "FORMS" p) "get" apos) [e] [] cpos) (tFormsGet X.K d ty) := by
  have hn : PE X (.Name "FORMS" p) (tC (.ref d)) := pe_glob (v := .ref d) hg hm rfl
  refine ⟨fun pins s σ H Q I h => ?_⟩
  refine wpAny_Call_method m.base m.few m.line PySem.F.plainAttrs_dict PySem.F.slot_dict_get PySem.F.type_dict_get (thn (hn.run pins s σ H (fun x H1 => x = .ref d ∧ tFormsGet X.K d ty σ H1 Q) I ⟨rfl, h⟩) fun u s1 ⟨x, H1, I1, rx, ex, q1⟩ => ?_)
  subst ex
  obtain rfl : u = Value.ref d := rx
  refine ⟨kd_type D I1, fun b q => ?_, ?_⟩
  · cases q; exact ⟨_, I1.kIn _ _ D.at_, rfl⟩
  rw [m.trees]
  refine Calls.callWith_builtin rfl (Calls.evalArgs_plain (Calls.spliced_cons (thn (he.run pins s1 σ H1 _ I1 q1) fun iv s2 ⟨y, H2, I2, ry, z, u0, v0, ey, en, rv, q2⟩ => Calls.spliced_nil ?_)))
  subst ey
  obtain ⟨t, rfl⟩ : ∃ t, iv = Value.str z t := ry
  have hmap := PySem.W.mapOf_K (prog := X.prog) (w := X.w) I2.kIn D.at_ D.lit
  refine call_meetsIn PySem.F.slot_dict_get hmap.typeIs PySem.F.entry_dict_get (PySem.F.args_dict_get_2 _ _) (meets_dict_get _ d (strKind_is X.prog X.w z t) D.low) ⟨_, hmap, v0, H2, I2.tok _, ?_, q2⟩
  rw [PySem.W.find_K D.at_ en]
  exact rv
end
end JB
end
section
namespace JB
open PySem L2 JM
/-! ### data laid out in tuples -/
def cnt (t n : Int) : Int := if t = 0 then n else n.fmod t
abbrev lk (fs : List (Str × V)) (f : Str) (v : V) : Prop := fs.lookup f = some v
def NoM (ks : List Str) (fs : List (Str × V)) : Prop := ∀ m, ks.contains m = false → fs.lookup m = none
theorem NoM.get {ks : List Str} {fs : List (Str × V)} (h : NoM ks fs) {m : Str} (hm : ks.contains m = false) : fs.lookup m = none := h m hm
theorem NoM.put {ks : List Str} {fs : List (Str × V)} {f : Str} {v : V} (h : NoM ks fs) (hf : ks.contains f = true) : NoM ks (putF f v fs) := fun m hm => by
  have n : ¬ m = f := fun q => by rw [q, hf] at hm; cases hm
  rw [putF_get_ne n]; exact h m hm
theorem putF_len_same {f : Str} {v u : V} : ∀ {fs : List (Str × V)}, fs.lookup f = some u → (putF f v fs).length = fs.length
  | (g, x) :: r, h => by
    show (if g = f then (g, v) :: r else (g, x) :: putF f v r).length = _
    by_cases e : g = f
    · rw [if_pos e]; rfl
    · rw [if_neg e]
      have h' : r.lookup f = some u := by
        have hb : (f == g) = false := beq_eq_false_iff_ne.mpr fun q => e q.symm
        rw [List.lookup_cons, hb] at h; exact h
      simp only [List.length_cons]; rw [putF_len_same h']
theorem putF_lt {f : Str} {v : V} {fs : List (Str × V)} {n : Nat} (h : fs.length < n) : (putF f v fs).length < n + 1 := by have := putF_len f v fs; omega
theorem NoM.nil {ks : List Str} : NoM ks [] := fun _ _ => rfl
theorem Fr1.upx {m : Addr} {H H1 H2 : Hp} (e : Fr1 m H H1) (f : Same H1 H2) : Fr1 m H H2 := fun a o h n => f _ _ (e a o h n)
theorem Fr1.none {m b : Addr} {H H1 : Hp} (e : Fr1 m H H1) (n : b ≠ m) (h : H1 b = Option.none) : H b = Option.none := by
  cases q : H b with
  | none => rfl
  | some o => rw [e b o q n] at h; cases h
theorem same_tr {H H1 H2 : Hp} (a : Same H H1) (b : Same H1 H2) : Same H H2 := a.trans b
def FrM (M : List Addr) (H H' : Hp) : Prop := ∀ a o, H a = some o → ¬ a ∈ M → H' a = some o
theorem FrM.refl (M : List Addr) (H : Hp) : FrM M H H := fun _ _ h _ => h
theorem take_more {β : Type} {l : List β} {i : Nat} {x : β} (h : l[i]? = some x) : l.take (i + 1) = l.take i ++ [x] := by
  rw [List.take_add_one, h]; rfl
theorem FrM.trans {M : List Addr} {H H1 H2 : Hp} (a : FrM M H H1) (b : FrM M H1 H2) : FrM M H H2 := fun c o h n => b c o (a c o h n) n
theorem Same.frM {M : List Addr} {H H' : Hp} (e : Same H H') : FrM M H H' := fun a o h _ => e a o h
theorem Fr1.frM {M : List Addr} {m : Addr} {H H' : Hp} (e : Fr1 m H H') (h : m ∈ M) : FrM M H H' := fun a o ha n => e a o ha fun q => n (q ▸ h)
theorem FrM.one {m : Addr} {H H' : Hp} (e : FrM [m] H H') : Fr1 m H H' := fun a o h n => e a o h (by simpa using n)
theorem Fr1.many {m : Addr} {H H' : Hp} (e : Fr1 m H H') : FrM [m] H H' := fun a o h n => e a o h (by simpa using n)
theorem hp_frk {m : Addr} {H H' : Hp} {p : Addr} {o om : HO} (e : Fr1 m H H') (h : H p = some o) (hm : H m = some om) (d : o ≠ om) : H' p = some o := e p o h (ne_of h hm d)
theorem hp_frM {M : List Addr} {H H' : Hp} {p : Addr} {o : HO} (e : FrM M H H') (h : H p = some o) (n : ¬ p ∈ M) : H' p = some o := e p o h n
/-- all tuples stay -/
def TupS (H H' : Hp) : Prop := ∀ t xs, H t = some (.tup xs) → H' t = some (.tup xs)
theorem TupS.trans {H H1 H2 : Hp} (a : TupS H H1) (b : TupS H1 H2) : TupS H H2 := fun t xs h => b t xs (a t xs h)
theorem TupS.refl (H : Hp) : TupS H H := fun _ _ h => h
theorem Same.tups {H H' : Hp} (e : Same H H') : TupS H H' := fun t xs h => e t _ h
theorem Fr1.tups {m : Addr} {H H' : Hp} {o : HO} (e : Fr1 m H H') (h : H m = some o) (d : ∀ xs, o ≠ .tup xs) : TupS H H' := fun t xs ht =>
  e t _ ht (ne_of ht h fun q => d xs q.symm)
theorem FrM.tups {M : List Addr} {H H' : Hp} (e : FrM M H H') (h : ∀ m ∈ M, ∀ xs, H m ≠ some (.tup xs)) : TupS H H' := fun t xs ht =>
  e t _ ht fun q => h t q xs ht
section
variable {β : Type}
/-- each value a tuple of what it stands for -/
def Tups (H : Hp) (enc : β → List V) (vs : List V) (xs : List β) : Prop :=
  vs.length = xs.length ∧ ∀ (i : Nat) (v : V), vs[i]? = some v → ∃ x t, xs[i]? = some x ∧ v = .ref t ∧ H t = some (.tup (enc x))
theorem Tups.nil {H : Hp} {enc : β → List V} : Tups H enc [] [] := ⟨rfl, fun i v h => by simp at h⟩
theorem Tups.stay {H H' : Hp} {enc : β → List V} {vs : List V} {xs : List β} (h : Tups H enc vs xs) (e : TupS H H') : Tups H' enc vs xs :=
  ⟨h.1, fun i v hv => by obtain ⟨x, t, h1, h2, h3⟩ := h.2 i v hv; exact ⟨x, t, h1, h2, e t _ h3⟩⟩
theorem Tups.snoc {H : Hp} {enc : β → List V} {vs : List V} {xs : List β} {x : β} {t : Addr} (h : Tups H enc vs xs) (ht : H t = some (.tup (enc x))) : Tups H enc (vs ++ [.ref t]) (xs ++ [x]) := by
  refine ⟨by simp [h.1], fun i v hv => ?_⟩
  rcases Nat.lt_or_ge i vs.length with hi | hi
  · rw [List.getElem?_append_left hi] at hv
    obtain ⟨y, t', h1, h2, h3⟩ := h.2 i v hv
    exact ⟨y, t', by rw [List.getElem?_append_left (h.1 ▸ hi)]; exact h1, h2, h3⟩
  · rw [List.getElem?_append_right hi] at hv
    have e : i - vs.length = 0 := by
      have := (List.getElem?_eq_some_iff.mp hv).1
      simp at this; omega
    rw [e] at hv
    have : v = .ref t := by simpa using hv.symm
    exact ⟨x, t, by rw [List.getElem?_append_right (h.1 ▸ hi), ← h.1, e]; rfl, this, ht⟩
theorem Tups.at {H : Hp} {enc : β → List V} {vs : List V} {xs : List β} (h : Tups H enc vs xs) {i : Nat} {x : β} (hx : xs[i]? = some x) : ∃ t, vs[i]? = some (.ref t) ∧ H t = some (.tup (enc x)) := by
  have hi : i < vs.length := by rw [h.1]; exact (List.getElem?_eq_some_iff.mp hx).1
  obtain ⟨y, t, h1, h2, h3⟩ := h.2 i vs[i] (List.getElem?_eq_getElem hi)
  rw [hx] at h1; cases h1
  exact ⟨t, by rw [List.getElem?_eq_getElem hi, h2], h3⟩
theorem Tups.unsnoc {H : Hp} {enc : β → List V} {vs : List V} {xs : List β} {x : β} (h : Tups H enc vs (xs ++ [x])) : ∃ vs' t, vs = vs' ++ [.ref t] ∧ Tups H enc vs' xs ∧ H t = some (.tup (enc x)) := by
  have hl := h.1
  rw [List.length_append] at hl
  have hne : vs ≠ [] := fun q => by rw [q] at hl; simp at hl
  obtain ⟨vs', v, rfl⟩ : ∃ l v, vs = l ++ [v] := ⟨vs.dropLast, vs.getLast hne, (List.dropLast_concat_getLast hne).symm⟩
  have hl' : vs'.length = xs.length := by simp at hl; exact hl
  obtain ⟨t, h1, h2⟩ := h.at (i := xs.length) (x := x) (by simp)
  rw [← hl'] at h1
  have : v = .ref t := by simpa using h1
  subst this
  refine ⟨vs', t, rfl, ⟨hl', fun i v hv => ?_⟩, h2⟩
  have hi : i < vs'.length := (List.getElem?_eq_some_iff.mp hv).1
  obtain ⟨y, t', h3, h4, h5⟩ := h.2 i v (by rw [List.getElem?_append_left hi]; exact hv)
  rw [List.getElem?_append_left (hl' ▸ hi)] at h3
  exact ⟨y, t', h3, h4, h5⟩
end
/-! tables by names -/
section
variable {K : PySem.W.Frag} {σ : L2.St} {H : Hp} {Q : VK} {D : Ends}
theorem r_dgetN {d : Addr} {ns : List Str} {f : Str → V} {n : Str} (h : H d = some (.dK (dmap ns f))) (hn : n ∈ ns) (k : Q (f n) H) : rDGet (.ref d) Q (.str n) H := r_dgetS h (valV_dmap hn) k
theorem r_dputN {d : Addr} {ns : List Str} {f : Str → V} {n : Str} {v : V} (h : H d = some (.dK (dmap ns f))) (hn : n ∈ ns) (hz : ns.length ≤ 1000) (k : ∀ H', (hf : Fr1 d H H') → (hp : H' d = some (.dK (dmap ns (setF f n v)))) → D.nx σ H') : rDPut v (.ref d) D σ (.str n) H :=
  r_dputS h (szlt _ (by rw [dmap_len]; omega)) fun H' e q => k H' e (by rw [putK_dmap hn] at q; exact q)
theorem setF_str {ab : Str → Str} {c h : Str} : setF (fun n => V.str (ab n)) c (.str h) = fun n => V.str (sf ab c h n) := by
  funext m; unfold setF sf; split <;> rfl
theorem setF_int {ab : Str → Int} {c : Str} {h : Int} : setF (fun n => V.int (ab n)) c (.int h) = fun n => V.int (sf ab c h n) := by
  funext m; unfold setF sf; split <;> rfl
end
/-! more readings -/
section
variable {K : PySem.W.Frag} {σ : L2.St} {H : Hp} {Q : VK} {D : Ends} {ta tb te : TE}
theorem w_aug {i : Nat} {ti : TIp} {v : V} (h : σ[i]? = some (some v)) (k : te σ H fun y H1 => ti v y H1 fun z H2 => D.nx (σ.set i (some z)) H2) : tAug i te ti D σ H := ⟨v, h, k⟩
theorem r_ip {f : Int → Int → Int} {i j : Int} (k : Q (.int (f i j)) H) : ipI f (.int i) (.int j) H Q := ⟨i, j, rfl, rfl, k⟩
theorem r_isN_non (k : Q (.bl true) H) : Q (.bl (decide (V.non = V.non))) H := by
  rw [show decide (V.non = V.non) = true by simp]; exact k
theorem r_add {i j : Int} (k : Q (.int (i + j)) H) : rAdd (.int i) (.int j) H Q := ⟨i, j, rfl, rfl, k⟩
theorem r_sub {i j : Int} (k : Q (.int (i - j)) H) : rSub (.int i) (.int j) H Q := ⟨i, j, rfl, rfl, k⟩
def rDAug (ov : V) (tv : TE) (rd : V → V → Hp → VK → Prop) (D : Ends) (σ : L2.St) : VK := fun y H2 => ∃ a v, ov = .ref a ∧ DGet H2 a y (some v) ∧
  tv σ H2 fun y2 H3 => rd v y2 H3 fun z H4 => ∃ H5, DPut H4 a y z H5 ∧ D.nx σ H5
theorem w_daug {td ty tv : TE} {rd : V → V → Hp → VK → Prop} (k : td σ H fun x H1 => ty σ H1 (rDAug x tv rd D σ)) : sDAug td ty tv rd D σ H := k
theorem r_daugS {d : Addr} {kvs : List (Key × V)} {n : Str} {v : V} {tv : TE} {rd : V → V → Hp → VK → Prop} (h : H d = some (.dK kvs)) (e : valV kvs (Sum.inr n) = some v)
    (k : tv σ H fun y2 H3 => rd v y2 H3 fun z H4 => ∃ H5, DPut H4 d (.str n) z H5 ∧ D.nx σ H5) : rDAug (.ref d) tv rd D σ (.str n) H :=
  ⟨d, v, rfl, e ▸ DGet.k (k := Sum.inr n) h, k⟩
theorem r_putS {d : Addr} {kvs : List (Key × V)} {n : Str} {z : V} (h : H d = some (.dK kvs)) (hz : kvs.length < sizeLine) (k : ∀ H', (hf : Fr1 d H H') → (hp : H' d = some (.dK (putK kvs (Sum.inr n) z))) → D.nx σ H') :
    ∃ H5, DPut H d (.str n) z H5 ∧ D.nx σ H5 := ⟨_, DPut.k (k := Sum.inr n) h hz, k _ Fr1.upd upd_same⟩
theorem r_daugN {d : Addr} {ns : List Str} {f : Str → V} {n : Str} {tv : TE} {rd : V → V → Hp → VK → Prop} (h : H d = some (.dK (dmap ns f))) (hn : n ∈ ns)
    (k : tv σ H fun y2 H3 => rd (f n) y2 H3 fun z H4 => ∃ H5, DPut H4 d (.str n) z H5 ∧ D.nx σ H5) : rDAug (.ref d) tv rd D σ (.str n) H := r_daugS h (valV_dmap hn) k
theorem r_putN {d : Addr} {ns : List Str} {f : Str → V} {n : Str} {z : V} (h : H d = some (.dK (dmap ns f))) (hn : n ∈ ns) (hz : ns.length ≤ 1000) (k : ∀ H', (hf : Fr1 d H H') → (hp : H' d = some (.dK (dmap ns (setF f n z)))) → D.nx σ H') :
    ∃ H5, DPut H d (.str n) z H5 ∧ D.nx σ H5 := r_putS h (szlt _ (by rw [dmap_len]; omega)) fun H' e q => k H' e (by rw [putK_dmap hn] at q; exact q)
def rSl (K : PySem.W.Frag) (lo hi : Option Int) (Q : VK) : VK := fun x H => rSlA K x lo hi H Q
theorem w_sl {r : V → Option Int → Option Int → Hp → VK → Prop} {tl th : TO} (k : te σ H fun x H1 => tl σ H1 fun l H2 => th σ H2 fun u H3 => r x l u H3 Q) : tSl r te tl th σ H Q := k
theorem w_noPart {Q : Option Int → Hp → Prop} (k : Q none H) : tNoPart σ H Q := k
def rPart (Q : Option Int → Hp → Prop) : VK := fun x H1 => ∃ i, x = .int i ∧ Q (some i) H1
theorem w_part {Q : Option Int → Hp → Prop} (k : te σ H (rPart Q)) : tPart te σ H Q := k
theorem r_part {Q : Option Int → Hp → Prop} {i : Int} (k : Q (some i) H) : rPart Q (.int i) H := ⟨i, rfl, k⟩
/-- a part of a tuple that isn't the whole -/
theorem r_slT {a : Addr} {xs ys : List V} {lo hi : Option Int} {n : Nat} (h : H a = some (.tup xs)) (l : xs.length = n) (d : decide (HT.sIx n 0 lo = 0 ∧ HT.sIx n n hi = n) = false) (e : cutV xs lo hi = ys)
    (k : ∀ p H', (hn : H p = none) → (he : Same H H') → (hp : H' p = some (.tup ys)) → Q (.ref p) H') : rSlA K (.ref a) lo hi H Q := by
  subst l
  exact ⟨a, xs, rfl, SqT.of h, fun z => absurd z (of_decide_eq_false d), fun _ p hp => by rw [e]; exact k p _ hp (same_new hp) upd_same⟩
theorem r_sl514 {a : Addr} {v0 v1 v2 v3 v4 : V} (h : H a = some (.tup [v0, v1, v2, v3, v4])) (k : ∀ p H', (hn : H p = none) → (he : Same H H') → (hp : H' p = some (.tup [v1, v2, v3])) → Q (.ref p) H') : rSlA K (.ref a) (some 1) (some 4) H Q := r_slT (n := 5) h rfl (by decide) rfl k
theorem r_sl54 {a : Addr} {v0 v1 v2 v3 v4 : V} (h : H a = some (.tup [v0, v1, v2, v3, v4])) (k : ∀ p H', (hn : H p = none) → (he : Same H H') → (hp : H' p = some (.tup [v0, v1, v2, v3])) → Q (.ref p) H') : rSlA K (.ref a) none (some 4) H Q := r_slT (n := 5) h rfl (by decide) rfl k
theorem r_sl43 {a : Addr} {v0 v1 v2 v3 : V} (h : H a = some (.tup [v0, v1, v2, v3])) (k : ∀ p H', (hn : H p = none) → (he : Same H H') → (hp : H' p = some (.tup [v0, v1, v2])) → Q (.ref p) H') : rSlA K (.ref a) none (some 3) H Q := r_slT (n := 4) h rfl (by decide) rfl k
theorem r_sl413 {a : Addr} {v0 v1 v2 v3 : V} (h : H a = some (.tup [v0, v1, v2, v3])) (k : ∀ p H', (hn : H p = none) → (he : Same H H') → (hp : H' p = some (.tup [v1, v2])) → Q (.ref p) H') : rSlA K (.ref a) (some 1) (some 3) H Q := r_slT (n := 4) h rfl (by decide) rfl k
theorem r_sl32 {a : Addr} {v0 v1 v2 : V} (h : H a = some (.tup [v0, v1, v2])) (k : ∀ p H', (hn : H p = none) → (he : Same H H') → (hp : H' p = some (.tup [v0, v1])) → Q (.ref p) H') : rSlA K (.ref a) none (some 2) H Q := r_slT (n := 3) h rfl (by decide) rfl k
end
end JB
namespace JB
open PySem L2 JM
/-! comprehensions -/
section
variable {K : PySem.W.Frag} {σ : L2.St} {H : Hp} {Q : VK} {D : Ends} {ta tb te : TE}
def LcAt (J : It) (g : TG) (tt : TT) (te : TE) (vs : List Nat) (σ : L2.St) (Q : VK) (H1 : Hp) : Prop := ∀ D, H1 D = none → ∃ W : Nat → Nat → Hp → Prop, (∃ m, W 0 m (upd H1 D (.lst []))) ∧ ∀ i m H, W i m H →
  (J.stop i H ∧ Q (.ref D) H) ∨ (J.go i H ∧ ∃ Nx : Hp → Prop, (∀ H', Nx H' → ∃ m', m' < m ∧ W (i + 1) m' H') ∧ ∀ x H', J.yld i H x H' → g x (wipe σ vs) H' fun σ2 H2 => wipe σ2 vs = wipe σ vs ∧ tt σ2 H2 fun b H3 =>
    if b = true then te σ2 H3 fun y H4 => ∃ acc, H4 D = some (.lst acc) ∧ acc.length < sizeLine ∧ Nx (upd H4 D (.lst (acc ++ [y]))) else Nx H3)
theorem w_lc {wi : TI} {g : TG} {tt : TT} {vs : List Nat} (k : wi σ H fun J H1 => LcAt J g tt te vs σ Q H1) : tLc wi g tt te vs σ H Q := k
theorem w_tyes {Q : Bool → Hp → Prop} (k : Q true H) : tYes σ H Q := k
/-- a comprehension, each turn leaving all but M: Pv of the turn, the values so far, the heap (told of tuples and of M alone) -/
theorem lc_M (M : List Addr) {J : It} {n : Nat} {G : Hp → Prop} {Y : Nat → Hp → V → Hp → Prop} (w : Walk J n G Y) {g : TG} {tt : TT} {vs : List Nat} (hG : ∀ H', FrM M H H' → G H') (hn : n ≤ 1000000) (hM : ∀ m ∈ M, H m ≠ none)
    (Pv : Nat → List V → Hp → Prop) (h0 : Pv 0 [] H) (up : ∀ i acc H1 H2, Pv i acc H1 → TupS H1 H2 → (∀ m ∈ M, H2 m = H1 m) → Pv i acc H2)
    (hs : ∀ i x acc H1 H1' (KY : VK) (KN : Hp → Prop), i < n → Pv i acc H1 → FrM M H H1 → Y i H1 x H1' → acc.length ≤ i → (∀ y H4, FrM M H1 H4 → Pv (i + 1) (acc ++ [y]) H4 → KY y H4) → (∀ H3, FrM M H1 H3 → Pv (i + 1) acc H3 → KN H3) →
      g x (wipe σ vs) H1' fun σ2 H2 => wipe σ2 vs = wipe σ vs ∧ tt σ2 H2 fun b H3 => if b = true then te σ2 H3 KY else KN H3)
    (hd : ∀ acc D H', H D = none → FrM M H H' → H' D = some (.lst acc) → Pv n acc H' → acc.length ≤ n → Q (.ref D) H') : LcAt J g tt te vs σ Q H := by
  intro D hD
  have nD : ∀ m ∈ M, m ≠ D := fun m hm q => hM m hm (q ▸ hD)
  have DM : ¬ D ∈ M := fun q => hM D q hD
  have up0 : FrM M H (upd H D (.lst [])) := fun a o h _ => by rw [upd_ne (ne_of_none h hD)]; exact h
  refine lc_it w (fun i H' => ∃ acc, FrM M H H' ∧ H' D = some (.lst acc) ∧ acc.length ≤ i ∧ Pv i acc H')
    ⟨[], up0, upd_same, Nat.le_refl _, up 0 [] H _ h0 (fun t xs h => ?_) (fun m hm => upd_ne (nD m hm))⟩ (fun i H' _ ⟨acc, f, _⟩ => hG H' f) ?_ ?_
  · rw [upd_ne (ne_of_none h hD)]; exact h
  · rintro i x H1 H1' hi ⟨acc, f, hacc, hl, p⟩ hy
    refine hs i x acc H1 H1' _ _ hi p f hy hl (fun y H4 f4 p4 => ⟨acc, f4 D _ hacc DM, by rw [sizeLine_eq]; omega, acc ++ [y], fun a o h hm => ?_, upd_same, by simp; exact hl, up (i + 1) (acc ++ [y]) H4 _ p4 (fun t xs h => ?_) (fun m hm => upd_ne (nD m hm))⟩) (fun H3 f3 p3 => ⟨acc, f.trans f3, f3 D _ hacc DM, by omega, p3⟩)
    · rw [upd_ne (ne_of_none h hD)]; exact f4 a o (f a o h hm) hm
    · rw [upd_ne (ne_of h (f4 D _ hacc DM) (by intro z; cases z))]; exact h
  · rintro H' ⟨acc, f, hacc, hl, p⟩
    exact hd acc D H' hD f hacc p hl
theorem frM_nil {H H' : Hp} (f : FrM [] H H') : Same H H' := fun a o h => f a o h (by simp)
/-- a new dict of the pairs of a list -/
theorem mergeK_dmap {ns : List Str} {f : Str → V} (nd : ns.Nodup) : mergeK [] (dmap ns f) = dmap ns f := by
  have : ∀ (ns done : List Str), (done ++ ns).Nodup → mergeK (dmap done f) (dmap ns f) = dmap (done ++ ns) f := by
    intro ns
    induction ns with
    | nil => intro done _; rw [List.append_nil]; rfl
    | cons n r ih =>
      intro done h
      have hn : ¬ n ∈ done := fun q => (List.nodup_append.mp h).2.2 n q n (by simp) rfl
      show mergeK (putK (dmap done f) (Sum.inr n) (f n)) (dmap r f) = _
      rw [putK_new _ (valV_dmap_not hn)]
      have e : dmap done f ++ [((Sum.inr n : Key), f n)] = dmap (done ++ [n]) f := by unfold dmap; rw [List.map_append]; rfl
      rw [e, ih (done ++ [n]) (by rw [List.append_assoc]; exact h), List.append_assoc]; rfl
  exact this ns [] nd
theorem r_dictP {a : Addr} {vs : List V} {ns : List Str} {f : Str → V} (h : H a = some (.lst vs)) (t : Tups H (fun n => [.str n, f n]) vs ns) (nd : ns.Nodup) (k : ∀ p H', (hn : H p = none) → (he : Same H H') → (hp : H' p = some (.dK (dmap ns f))) → Q (.ref p) H') :
    ∃ (a' : Addr) (ps : List Addr) (kvs : List (Key × V)), [V.ref a] = [.ref a'] ∧ SqL K H a' (ps.map V.ref) ∧ Paired (fun p kv => SqT K H p [kV kv.1, kv.2]) ps kvs ∧ ∀ p, H p = none → Q (.ref p) (upd H p (.dK (mergeK [] kvs))) := by
  have key : ∀ (vs : List V) (ns : List Str), Tups H (fun n => [.str n, f n]) vs ns → ∃ ps : List Addr, vs = ps.map V.ref ∧ Paired (fun p kv => SqT K H p [kV kv.1, kv.2]) ps (dmap ns f) := by
    intro vs
    induction vs with
    | nil =>
      intro ns t
      have : ns = [] := List.length_eq_zero_iff.mp (t.1.symm ▸ rfl)
      subst this
      exact ⟨[], rfl, .nil⟩
    | cons v r ih =>
      intro ns t
      cases ns with
      | nil => have := t.1; simp at this
      | cons n m =>
        obtain ⟨x, q, h1, h2, h3⟩ := t.2 0 v rfl
        have hx : n = x := by simpa using h1
        subst hx
        obtain ⟨ps, e1, e2⟩ := ih m ⟨by have := t.1; simpa using this, fun i v hv => t.2 (i + 1) v hv⟩
        exact ⟨q :: ps, by rw [h2, e1]; rfl, .cons (SqT.of h3) e2⟩
  obtain ⟨ps, e1, e2⟩ := key vs ns t
  refine ⟨a, ps, dmap ns f, rfl, SqL.of (by rw [h, e1]), e2, fun p hp => ?_⟩
  rw [mergeK_dmap nd]
  exact k p _ hp (same_new hp) upd_same
theorem r_listOf {a : Addr} {xs : List V} (h : H a = some (.lst xs)) (k : ∀ p H', (hn : H p = none) → (he : Same H H') → (hp : H' p = some (.lst xs)) → Q (.ref p) H') :
    ∃ p ys, [V.ref a] = [.ref p] ∧ (SqL K H p ys ∨ SqT K H p ys) ∧ ∀ l, H l = none → Q (.ref l) (upd H l (.lst ys)) := ⟨a, xs, rfl, .inl (SqL.of h), fun p hp => k p _ hp (same_new hp) upd_same⟩
theorem r_sortedS {a : Addr} {xs : List Str} (h : H a = some (.lst (xs.map V.str))) (hz : xs.length < 64) (k : ∀ (ys : List Str) p H', (hy : ys.Perm xs) → (hs : PyProof.Rows.sortedS ys = true) → (hn : H p = none) → (he : Same H H') → (hp : H' p = some (.lst (ys.map V.str))) → Q (.ref p) H') : rSortedS K [.ref a] H Q :=
  ⟨a, xs, rfl, SqL.of h, hz, fun ys p hy hs hp => k ys p _ hy hs hp (same_new hp) upd_same⟩
theorem r_sum {a : Addr} {ns : List Int} (h : H a = some (.lst (ns.map V.int))) (k : Q (.int ns.sum) H) : rSum K [.ref a] H Q := ⟨a, ns, rfl, SqL.of h, k⟩
end
end JB
namespace JB
open PySem L2 JM
/-! built-in calls by named readings -/
section
variable {X : Cx} {σ : L2.St} {H : Hp} {Q : VK} {D : Ends} {ta tb te : TE}
def jLen (K : PySem.W.Frag) : List V → Hp → VK → Prop := fun xs H Q => ∃ p ys, xs = [.ref p] ∧ (SqL K H p ys ∨ SqT K H p ys) ∧ Q (.int ys.length) H
theorem call_lenJ (K : PySem.W.Frag) (h : X.K = K := by rfl) : CallR X (.builtin "len") (jLen K) := h ▸ call_len_seq
theorem j_lenL {K : PySem.W.Frag} {l : Addr} {xs : List V} (h : H l = some (.lst xs)) (k : Q (.int xs.length) H) : jLen K [.ref l] H Q := ⟨l, xs, rfl, .inl (SqL.of h), k⟩
theorem j_lenT {K : PySem.W.Frag} {l : Addr} {xs : List V} (h : H l = some (.tup xs)) (k : Q (.int xs.length) H) : jLen K [.ref l] H Q := ⟨l, xs, rfl, .inr (SqT.of h), k⟩
def jList (K : PySem.W.Frag) : List V → Hp → VK → Prop := fun xs H Q => ∃ p ys, xs = [.ref p] ∧ (SqL K H p ys ∨ SqT K H p ys) ∧ ∀ l, H l = none → Q (.ref l) (upd H l (.lst ys))
theorem call_listJ (K : PySem.W.Frag) (h : X.K = K := by rfl) : CallR X (.type "list") (jList K) := h ▸ call_list_of
theorem j_listL {K : PySem.W.Frag} {l : Addr} {xs : List V} (h : H l = some (.lst xs)) (k : ∀ p H', (hn : H p = none) → (he : Same H H') → (hp : H' p = some (.lst xs)) → Q (.ref p) H') : jList K [.ref l] H Q :=
  ⟨l, xs, rfl, .inl (SqL.of h), fun p hp => k p _ hp (same_new hp) upd_same⟩
def jTuple (K : PySem.W.Frag) : List V → Hp → VK → Prop := fun xs H Q => ∃ p ys, xs = [.ref p] ∧ ((SqL K H p ys ∧ ∀ l, H l = none → Q (.ref l) (upd H l (.tup ys))) ∨ (SqT K H p ys ∧ Q (.ref p) H))
theorem call_tupleJ (K : PySem.W.Frag) (h : X.K = K := by rfl) : CallR X (.type "tuple") (jTuple K) := h ▸ call_tuple_of
theorem j_tupleL {K : PySem.W.Frag} {l : Addr} {xs : List V} (h : H l = some (.lst xs)) (k : ∀ p H', (hn : H p = none) → (he : Same H H') → (hp : H' p = some (.tup xs)) → Q (.ref p) H') : jTuple K [.ref l] H Q :=
  ⟨l, xs, rfl, .inl ⟨SqL.of h, fun p hp => k p _ hp (same_new hp) upd_same⟩⟩
def jDictP (K : PySem.W.Frag) : List V → Hp → VK → Prop := fun xs H Q => ∃ (a : Addr) (ps : List Addr) (kvs : List (Key × V)), xs = [.ref a] ∧ SqL K H a (ps.map V.ref) ∧ Paired (fun p kv => SqT K H p [kV kv.1, kv.2]) ps kvs ∧ ∀ p, H p = none → Q (.ref p) (upd H p (.dK (mergeK [] kvs)))
theorem call_dictJ (K : PySem.W.Frag) (hc : X.calm = true) (h : X.K = K := by rfl) : CallR X (.type "dict") (jDictP K) := h ▸ call_dictP hc
theorem j_dictP {K : PySem.W.Frag} {a : Addr} {vs : List V} {ns : List Str} {f : Str → V} (h : H a = some (.lst vs)) (t : Tups H (fun n => [.str n, f n]) vs ns) (nd : ns.Nodup) (k : ∀ p H', (hn : H p = none) → (he : Same H H') → (hp : H' p = some (.dK (dmap ns f))) → Q (.ref p) H') : jDictP K [.ref a] H Q :=
  r_dictP h t nd k
def jDictD : List V → Hp → VK → Prop := fun xs H Q => ∃ (a : Addr) (kvs : List (Key × V)), xs = [.ref a] ∧ Rd H a (.dK kvs) ∧ ∀ p, H p = none → Q (.ref p) (upd H p (.dK kvs))
theorem call_dictDJ : CallR X (.type "dict") jDictD := call_dictD
theorem j_dictD {a : Addr} {kvs : List (Key × V)} (h : H a = some (.dK kvs)) (k : ∀ p H', (hn : H p = none) → (he : Same H H') → (hp : H' p = some (.dK kvs)) → Q (.ref p) H') : jDictD [.ref a] H Q :=
  ⟨a, kvs, rfl, .inl h, fun p hp => k p _ hp (same_new hp) upd_same⟩
def jLenD : List V → Hp → VK → Prop := fun xs H Q => ∃ a kvs, xs = [V.ref a] ∧ H a = some (.dK kvs) ∧ Q (.int kvs.length) H
theorem call_lenDJ : CallR X (.builtin "len") jLenD := call_lenD
def jLenS : List V → Hp → VK → Prop := fun xs H Q => ∃ z, xs = [.str z] ∧ z.length ≤ sizeLine ∧ Q (.int z.length) H
theorem call_lenSJ : CallR X (.builtin "len") jLenS := call_len_str
theorem j_lenS {z : Str} (h : z.length ≤ sizeLine) (k : Q (.int z.length) H) : jLenS [.str z] H Q := ⟨z, rfl, h, k⟩
def jAbs : List V → Hp → VK → Prop := fun xs H Q => ∃ i, xs = [.int i] ∧ Q (.int (if i < 0 then -i else i)) H
theorem call_absJ : CallR X (.builtin "abs") jAbs := call_abs
theorem j_abs {i : Int} (k : Q (.int (if i < 0 then -i else i)) H) : jAbs [.int i] H Q := ⟨i, rfl, k⟩
def jMax : List V → Hp → VK → Prop := fun xs H Q => ∃ i j, xs = [.int i, .int j] ∧ Q (.int (if j > i then j else i)) H
def jMin : List V → Hp → VK → Prop := fun xs H Q => ∃ i j, xs = [.int i, .int j] ∧ Q (.int (if j < i then j else i)) H
theorem call_maxJ (hc : X.calm = true) : CallR X (.builtin "max") jMax := call_max2 hc
theorem call_minJ (hc : X.calm = true) : CallR X (.builtin "min") jMin := call_min2 hc
theorem j_max {i j : Int} (k : Q (.int (if j > i then j else i)) H) : jMax [.int i, .int j] H Q := ⟨i, j, rfl, k⟩
theorem j_min {i j : Int} (k : Q (.int (if j < i then j else i)) H) : jMin [.int i, .int j] H Q := ⟨i, j, rfl, k⟩
def jInt1 : List V → Hp → VK → Prop := fun xs H Q => (∃ i, xs = [.int i] ∧ Q (.int i) H) ∨ ∃ k, xs = [.bl k] ∧ Q (.int (if k then 1 else 0)) H
theorem call_int1J : CallR X (.type "int") jInt1 := call_int1
theorem j_int1b {b : Bool} (k : Q (.int (if b then 1 else 0)) H) : jInt1 [.bl b] H Q := .inr ⟨b, rfl, k⟩
def jStrI : List V → Hp → VK → Prop := fun xs H Q => ∃ i : Int, xs = [.int i] ∧ i.natAbs.log2 < 1920 ∧ Q (.str (toString i : String)) H
theorem call_strJ : CallR X (.type "str") jStrI := call_str_int
theorem j_strI {i : Int} (h : i.natAbs.log2 < 1920) (k : Q (.str (toString i : String)) H) : jStrI [.int i] H Q := ⟨i, rfl, h, k⟩
def jIntS : List V → Hp → VK → Prop := fun xs H Q => ∃ a n, xs = [.str a] ∧ PySem.intText? a = some n ∧ a.length ≤ 640 ∧ Q (.int n) H
theorem call_intJ : CallR X (.type "int") jIntS := call_int_str
theorem j_intS {a : Str} {n : Int} (h : PySem.intText? a = some n) (hl : a.length ≤ 640) (k : Q (.int n) H) : jIntS [.str a] H Q := ⟨a, n, rfl, h, hl, k⟩
def jSortD : List V → Hp → VK → Prop := fun xs H Q => ∃ (a : Addr) (kvs : List (Key × V)) (ks : List Str), xs = [.ref a] ∧ Rd H a (.dK kvs) ∧ kvs.map (·.1) = ks.map Sum.inr ∧ ks.length < 64 ∧
    ∀ (ys : List Str) (p : Addr), ys.Perm ks → PyProof.Rows.sortedS ys = true → H p = none → Q (.ref p) (upd H p (.lst (ys.map V.str)))
theorem call_sortDJ (hc : X.calm = true) : CallR X (.builtin "sorted") jSortD := call_sortedD hc
theorem j_sortD {a : Addr} {kvs : List (Key × V)} {ks : List Str} (h : H a = some (.dK kvs)) (e : kvs.map (·.1) = ks.map Sum.inr) (hl : ks.length < 64)
    (k : ∀ (ys : List Str) p H', (hy : ys.Perm ks) → (hs : PyProof.Rows.sortedS ys = true) → (hn : H p = none) → (he : Same H H') → (hp : H' p = some (.lst (ys.map V.str))) → Q (.ref p) H') : jSortD [.ref a] H Q :=
  ⟨a, kvs, ks, rfl, .inl h, e, hl, fun ys p hy hs hp => k ys p _ hy hs hp (same_new hp) upd_same⟩
def jSortN : List V → Hp → VK → Prop := fun xs H Q => ∃ (a : Addr) (kvs : List (Key × V)) (ks : List Int), xs = [.ref a] ∧ Rd H a (.dK kvs) ∧ kvs.map (·.1) = ks.map Sum.inl ∧
    ∀ (ys : List Int) (p : Addr), ys.Perm ks → ys.Pairwise (· ≤ ·) → H p = none → Q (.ref p) (upd H p (.lst (ys.map V.int)))
theorem call_sortNJ (hc : X.calm = true) : CallR X (.builtin "sorted") jSortN := call_sortedDN hc
theorem j_sortN {a : Addr} {kvs : List (Key × V)} {ks : List Int} (h : H a = some (.dK kvs)) (e : kvs.map (·.1) = ks.map Sum.inl) 
    (k : ∀ (ys : List Int) p H', (hy : ys.Perm ks) → (hs : ys.Pairwise (· ≤ ·)) → (hn : H p = none) → (he : Same H H') → (hp : H' p = some (.lst (ys.map V.int))) → Q (.ref p) H') : jSortN [.ref a] H Q :=
  ⟨a, kvs, ks, rfl, .inl h, e, fun ys p hy hs hp => k ys p _ hy hs hp (same_new hp) upd_same⟩
def jAddS : R2 := fun x y H Q => ∃ i j : Str, x = .str i ∧ y = .str j ∧ i.length + j.length ≤ sizeLine ∧ Q (.str (i ++ j)) H
theorem op_addSJ : OpR X (binaryOp .Add) jAddS := op_add_str
theorem j_addS {i j : Str} (h : i.length + j.length ≤ sizeLine) (k : Q (.str (i ++ j)) H) : jAddS (.str i) (.str j) H Q := ⟨i, j, rfl, rfl, h, k⟩
def jInSign : R2 := fun x y H Q => ∃ (c : Nat) (z : Str), x = .str ⟨#[c]⟩ ∧ y = .str z ∧ Q (.bl (decide (c ∈ z.cps.toList))) H
theorem op_inSignJ : OpR X (compareOp .In) jInSign := op_in_sign
theorem j_inSign {c : Nat} {z : Str} (k : Q (.bl (decide (c ∈ z.cps.toList))) H) : jInSign (.str ⟨#[c]⟩) (.str z) H Q := ⟨c, z, rfl, rfl, k⟩
def jSplit : V → List V → Hp → VK → Prop := fun x xs H Q => ∃ a b : Str, x = .str a ∧ xs = [.str b] ∧ (b.length == 0) = false ∧ a.length + 2 ≤ sizeLine ∧ rNewStrs (Txt.split a b) H Q
theorem mt_splitJ : MtR X "str.split" jSplit := mt_split
theorem j_split {a b : Str} (h0 : (b.length == 0) = false) (h1 : a.length + 2 ≤ sizeLine) (k : ∀ p H', (hn : H p = none) → (he : Same H H') → (hp : H' p = some (.lst ((Txt.split a b).map V.str))) → Q (.ref p) H') : jSplit (.str a) [.str b] H Q :=
  ⟨a, b, rfl, rfl, h0, h1, fun p hp => k p _ hp (same_new hp) upd_same⟩
def jJoin (K : PySem.W.Frag) : V → List V → Hp → VK → Prop := fun x xs H Q => ∃ a p, ∃ ys : List Str, x = .str a ∧ xs = [.ref p] ∧ (SqL K H p (ys.map V.str) ∨ SqT K H p (ys.map V.str)) ∧ (ys.map (·.length)).sum + ys.length * a.length ≤ 16777216 ∧ Q (.str (Txt.join a ys)) H
theorem mt_joinJ (K : PySem.W.Frag) (h : X.K = K := by rfl) : MtR X "str.join" (jJoin K) := h ▸ mt_join
theorem j_join {K : PySem.W.Frag} {a : Str} {p : Addr} {ys : List Str} (h : H p = some (.lst (ys.map V.str))) (hz : (ys.map (·.length)).sum + ys.length * a.length ≤ 16777216) (k : Q (.str (Txt.join a ys)) H) : jJoin K (.str a) [.ref p] H Q :=
  ⟨a, p, ys, rfl, rfl, .inl (SqL.of h), hz, k⟩
def jStarts : V → List V → Hp → VK → Prop := fun x xs H Q => ∃ a b : Str, x = .str a ∧ xs = [.str b] ∧ Q (.bl (Txt.startswith a b)) H
theorem mt_startsJ : MtR X "str.startswith" jStarts := mt_startswith
theorem j_starts {a b : Str} (k : Q (.bl (Txt.startswith a b)) H) : jStarts (.str a) [.str b] H Q := ⟨a, b, rfl, rfl, k⟩
def jM (r : V → List V → Hp → VK → Prop) (te : TE) (σ : L2.St) (Q : VK) : VK := fun x H1 => (∃ a, x = .str a) ∧ te σ H1 fun y H2 => r x [y] H2 Q
theorem w_m1 {r : V → List V → Hp → VK → Prop} (k : ta σ H (jM r te σ Q)) : tM1 r ta te σ H Q := k
theorem j_m1 {r : V → List V → Hp → VK → Prop} {a : Str} (k : te σ H fun y H2 => r (.str a) [y] H2 Q) : jM r te σ Q (.str a) H := ⟨⟨a, rfl⟩, k⟩
def jGet1 (ty : TE) (σ : L2.St) (Q : VK) : VK := fun x H1 => ∃ a, x = .ref a ∧ IsD H1 a ∧ ty σ H1 fun y H2 => ∃ o, DGet H2 a y o ∧ Q (o.getD .non) H2
def jGot (a : Addr) (Q : VK) : VK := fun y H2 => ∃ o, DGet H2 a y o ∧ Q (o.getD .non) H2
theorem w_get1 {td ty : TE} (k : td σ H (jGet1 ty σ Q)) : tDGet1 td ty σ H Q := k
theorem j_get1 {ty : TE} {d : Addr} {kvs : List (Key × V)} (h : H d = some (.dK kvs)) (k : ty σ H (jGot d Q)) : jGet1 ty σ Q (.ref d) H := ⟨d, rfl, .inl ⟨kvs, .inl h⟩, k⟩
theorem j_gotS {d : Addr} {kvs : List (Key × V)} {n : Str} (h : H d = some (.dK kvs)) (k : Q ((valV kvs (Sum.inr n)).getD .non) H) : jGot d Q (.str n) H := ⟨_, DGet.k (k := Sum.inr n) h, k⟩
def jPop1 (ty : TE) (σ : L2.St) (Q : VK) : VK := fun x H1 => ∃ a, x = .ref a ∧ IsD H1 a ∧ ty σ H1 fun y H2 => ∃ kvs k v, H2 a = some (.dK kvs) ∧ y = kV k ∧ valV kvs k = some v ∧ Q v (upd H2 a (.dK (dropK kvs k)))
def jPopd (a : Addr) (Q : VK) : VK := fun y H2 => ∃ kvs k v, H2 a = some (.dK kvs) ∧ y = kV k ∧ valV kvs k = some v ∧ Q v (upd H2 a (.dK (dropK kvs k)))
theorem w_pop1 {td ty : TE} (k : td σ H (jPop1 ty σ Q)) : tDPop1 td ty σ H Q := k
theorem j_pop1 {ty : TE} {d : Addr} {kvs : List (Key × V)} (h : H d = some (.dK kvs)) (k : ty σ H (jPopd d Q)) : jPop1 ty σ Q (.ref d) H := ⟨d, rfl, .inl ⟨kvs, .inl h⟩, k⟩
theorem j_popdI {d : Addr} {kvs : List (Key × V)} {n : Int} {v : V} (h : H d = some (.dK kvs)) (e : valV kvs (Sum.inl n) = some v) (k : ∀ H', (hf : Fr1 d H H') → (hp : H' d = some (.dK (dropK kvs (Sum.inl n)))) → Q v H') : jPopd d Q (.int n) H :=
  ⟨kvs, Sum.inl n, v, h, rfl, e, k _ Fr1.upd upd_same⟩
def rPar (i j : Nat) (D : Ends) (σ : L2.St) : List V → Hp → Prop := fun vs H1 => ∃ v w, vs = [v, w] ∧ D.nx ((σ.set i (some v)).set j (some w)) H1
theorem w_par {i j : Nat} {t : TA} (k : t σ H (rPar i j D σ)) : tPar i j t D σ H := k
theorem j_par {i j : Nat} {v w : V} (k : D.nx ((σ.set i (some v)).set j (some w)) H) : rPar i j D σ [v, w] H := ⟨v, w, rfl, k⟩
/-! tuples joined -/
theorem j_cat {K : PySem.W.Frag} {a b : Addr} {xs ys : List V} (ha : H a = some (.tup xs)) (hb : H b = some (.tup ys)) (hz : xs.length + ys.length ≤ 1000000) (k : ∀ p H', (he : Same H H') → (hp : H' p = some (.tup (xs ++ ys))) → Q (.ref p) H') : rCatA K (.ref a) (.ref b) H Q := by
  refine ⟨a, b, xs, ys, rfl, rfl, SqT.of ha, SqT.of hb, by rw [sizeLine_eq]; omega, fun e => ?_, fun _ e => ?_, fun _ _ p hp => k p _ (same_new hp) upd_same⟩
  · subst e; exact k b H (Same.refl H) hb
  · subst e; exact k a H (Same.refl H) (by rw [List.append_nil]; exact ha)
theorem j_catL {a b : Addr} {xs ys : List V} (ha : H a = some (.lst xs)) (hb : H b = some (.lst ys)) (hz : xs.length + ys.length ≤ 1000000) (k : ∀ p H', (hn : H p = none) → (he : Same H H') → (hp : H' p = some (.lst (xs ++ ys))) → Q (.ref p) H') : rCat (.ref a) (.ref b) H Q :=
  ⟨a, b, xs, ys, rfl, rfl, ha, hb, by rw [sizeLine_eq]; omega, fun p hp => k p _ hp (same_new hp) upd_same⟩
theorem j_sortI {K : PySem.W.Frag} {a : Addr} {ns : List Int} (h : H a = some (.lst (ns.map V.int))) (k : ∀ (ys : List Int) p H', (hy : ys.Perm ns) → (hs : ys.Pairwise (· ≤ ·)) → (hn : H p = none) → (he : Same H H') → (hp : H' p = some (.lst (ys.map V.int))) → Q (.ref p) H') : rSortedI K [.ref a] H Q :=
  ⟨a, ns, rfl, SqL.of h, fun ys p hy hs hp => k ys p _ hy hs hp (same_new hp) upd_same⟩
theorem j_slL {K : PySem.W.Frag} {a : Addr} {xs : List V} {lo hi : Option Int} (h : H a = some (.lst xs)) (k : ∀ p H', (hn : H p = none) → (he : Same H H') → (hp : H' p = some (.lst (cutV xs lo hi))) → Q (.ref p) H') : rSlL K (.ref a) lo hi H Q :=
  ⟨a, xs, rfl, SqL.of h, fun p hp => k p _ hp (same_new hp) upd_same⟩
theorem w_un_neg {k : TE} : True := trivial
end
end JB
namespace JB
open PySem L2 JM
theorem atI_zero {a : V} {l : List V} : atI (a :: l) 0 = some a := atI_nat (j := 0) rfl
theorem atI_one {a b : V} {l : List V} : atI (a :: b :: l) 1 = some b := atI_nat (j := 1) rfl
def posIn : List Str → Str → Nat
  | [], _ => 0
  | m :: r, n => if m = n then 0 else posIn r n + 1
theorem posIn_get : ∀ {l : List Str} {i : Nat} {n : Str}, l.Nodup → l[i]? = some n → posIn l n = i
  | [], i, n, _, h => by simp at h
  | m :: r, 0, n, _, h => by
    have : m = n := by simpa using h
    show (if m = n then 0 else _) = 0
    rw [if_pos this]
  | m :: r, i + 1, n, nd, h => by
    have h' : r[i]? = some n := by simpa using h
    have ne : ¬ m = n := fun q => (List.nodup_cons.mp nd).1 (q ▸ List.mem_of_getElem? h')
    show (if m = n then 0 else posIn r n + 1) = i + 1
    rw [if_neg ne, posIn_get (List.nodup_cons.mp nd).2 h']
/-! walks, chains -/
section
variable {K : PySem.W.Frag} {σ : L2.St} {H : Hp} {Q : VK} {D : Ends} {ta tb te tc : TE}
def rChain (r' : R2) (y : V) (tc : TE) (σ : L2.St) (Q : VK) : VK := fun z H3 => ∃ k, z = .bl k ∧ (if k = true then tc σ H3 fun w' H4 => r' y w' H4 Q else Q (.bl false) H3)
theorem w_chain {r r' : R2} (k : ta σ H fun x H1 => tb σ H1 fun y H2 => r x y H2 (rChain r' y tc σ Q)) : tChain r r' ta tb tc σ H Q := k
theorem r_chain {r' : R2} {y : V} {b : Bool} (k : if b = true then tc σ H fun w' H4 => r' y w' H4 Q else Q (.bl false) H) : rChain r' y tc σ Q (.bl b) H := ⟨b, rfl, k⟩
def rIterS (R : It → Hp → Prop) : VK := fun v H1 => ∃ x, v = .str x ∧ R (Its x) H1
theorem w_iStr {R : It → Hp → Prop} (k : te σ H (rIterS R)) : iStr te σ H R := k
theorem r_iterS {R : It → Hp → Prop} {z : Str} (k : R (Its z) H) : rIterS R (.str z) H := ⟨z, rfl, k⟩
def rIterE (K : PySem.W.Frag) (R : It → Hp → Prop) : List V → Hp → Prop := fun vs H1 => ∃ a xs, vs = [.ref a] ∧ SqL K H1 a xs ∧ R (Ite K a) H1
theorem w_iEnum {t : TA} {R : It → Hp → Prop} (k : t σ H (rIterE K R)) : iEnum K t σ H R := k
theorem r_iterE {R : It → Hp → Prop} {a : Addr} {xs : List V} (h : H a = some (.lst xs)) (k : R (Ite K a) H) : rIterE K R [.ref a] H := ⟨a, xs, rfl, SqL.of h, k⟩
def rRng1 (R : It → Hp → Prop) : List V → Hp → Prop := fun vs H1 => ∃ j : Int, vs = [.int j] ∧ -(2 ^ 62) ≤ j ∧ j < 2 ^ 62 ∧ R (Itr 0 j.toNat) H1
theorem w_iRng1 {t : TA} {R : It → Hp → Prop} (k : t σ H (rRng1 R)) : iRng1 t σ H R := k
theorem r_rng1 {R : It → Hp → Prop} {j : Int} (h1 : -1000000 ≤ j) (h2 : j ≤ 1000000) (k : R (Itr 0 j.toNat) H) : rRng1 R [.int j] H := ⟨j, rfl, by omega, by omega, k⟩
def rRng2 (R : It → Hp → Prop) : List V → Hp → Prop := fun vs H1 => ∃ i j : Int, vs = [.int i, .int j] ∧ (-(2 ^ 62) ≤ i ∧ i < 2 ^ 62 ∧ -(2 ^ 62) ≤ j ∧ j < 2 ^ 62) ∧ R (Itr i (j - i).toNat) H1
theorem w_iRng2 {t : TA} {R : It → Hp → Prop} (k : t σ H (rRng2 R)) : iRng2 t σ H R := k
theorem r_rng2 {R : It → Hp → Prop} {i j : Int} (h1 : -1000000 ≤ i ∧ i ≤ 1000000) (h2 : -1000000 ≤ j ∧ j ≤ 1000000) (k : R (Itr i (j - i).toNat) H) : rRng2 R [.int i, .int j] H := ⟨i, j, rfl, by omega, k⟩
theorem loop_walk {J : It} {n : Nat} {G : Hp → Prop} {Y : Nat → Hp → V → Hp → Prop} (w : Walk J n G Y) {g : TG} {tb : TS} (Pv : Nat → L2.St → Hp → Prop) (h0 : Pv 0 σ H) (hG : ∀ i σ H, i ≤ n → Pv i σ H → G H)
    (hs : ∀ i x σ H H', i < n → Pv i σ H → Y i H x H' → g x σ H' fun σ2 H2 => tb { D with nx := Pv (i + 1), ct := Pv (i + 1), bk := D.nx } σ2 H2) (hd : ∀ σ H, Pv n σ H → D.nx σ H) : LoopAt J g tb D σ H := for_it w Pv h0 hG hs hd
theorem j_all {a : Addr} {bs : List Bool} (h : H a = some (.lst (bs.map V.bl))) (k : Q (.bl (bs.all id)) H) : rAll K [.ref a] H Q := ⟨a, bs, rfl, SqL.of h, k⟩
theorem j_isStr {z : Str} (k : Q (.bl true) H) : rIsi K [.str z, .ty "str"] H Q := ⟨.str z, .ty "str", .type "str", .type "str", true, rfl, .ty _, .base (by constructor), kit_ty (by decide +kernel), k⟩
/-- a turn of enumerate: a new pair -/
def YEn (xs : List V) : Nat → Hp → V → Hp → Prop := fun i H v H' => ∃ T x, v = .ref T ∧ H T = none ∧ Same H H' ∧ H' T = some (.tup [.int (i : Nat), x]) ∧ xs[i]? = some x
theorem walk_en {a : Addr} {xs : List V} : Walk (Ite K a) xs.length (fun H => SqL K H a xs) (YEn xs) := walk_enum.mono (fun _ h => h) fun i H v H' _ _ y => by
  obtain ⟨T, x, y, rfl, ht, rfl, h1, h2⟩ := y
  cases h1
  exact ⟨T, _, rfl, ht, same_new ht, upd_same, h2⟩
/-- dict([(name, e) for name in names]) -/
theorem lc_dict {a : Addr} {ns : List Str} {j : Nat} {vs : List Nat} (f : Str → V) (h : H a = some (.lst (ns.map V.str))) (nd : ns.Nodup) (hz : ns.length ≤ 1000)
    (hw : ∀ n : Str, wipe ((wipe σ vs).set j (some (.str n))) vs = wipe σ vs ∧ ((wipe σ vs).set j (some (.str n)))[j]? = some (some (.str n)))
    (he : ∀ n H' Q, n ∈ ns → Same H H' → Q (f n) H' → te ((wipe σ vs).set j (some (.str n))) H' Q)
    (k : ∀ p H', (hn : H p = none) → (he : Same H H') → (hp : H' p = some (.dK (dmap ns f))) → Q (.ref p) H') :
    LcAt (Itl K a) (gName j) tYes (tTup (tCons (tVar j) (tCons te tNil))) vs σ (fun x H1 => tNil σ H1 fun xs H2 => jDictP K (x :: xs) H2 Q) H := by
  refine lc_M [] walk_list (fun H' g => SqL.of (frM_nil g _ _ h)) (by simp; omega) (by simp) (fun i acc H' => Tups H' (fun n : Str => [.str n, f n]) acc (ns.take i)) Tups.nil (fun i acc H1 H2 p t m => p.stay t) ?_ ?_
  · rintro i y acc H1 H1' KY KN hi p1 f1 ⟨rfl, hy⟩ hacc hY hN
    rw [List.getElem?_map, Option.map_eq_some_iff] at hy
    obtain ⟨n, hm, rfl⟩ := hy
    refine ⟨(hw n).1, w_tyes (ite_T rfl ?_)⟩
    refine ⟨_, (hw n).2, he n H1' _ (List.mem_of_getElem? hm) (frM_nil f1) ⟨sz _ (by simp), fun p hp => hY (.ref p) (upd H1' p (.tup [.str n, f n])) (Same.frM (same_new hp)) ?_⟩⟩
    rw [take_more hm]
    exact (p1.stay (Same.tups (same_new hp))).snoc upd_same
  · rintro acc D' H' hD g hp t _
    rw [List.take_of_length_le (by simp)] at t
    exact j_dictP hp t nd fun p H2 hn e2 h2 => k p H2 ((frM_nil g).free hn) ((frM_nil g).trans e2) h2
/-- a store into a list -/
theorem w_gsub {to ti : TE} {t : TSet} {v : V} {Q : L2.St → Hp → Prop} (k : to σ H fun o H1 => ti σ H1 fun i H2 => t o i v H2 fun H3 => Q σ H3) : gSub to ti t v σ H Q := k
theorem j_setL {p : Addr} {xs : List V} {k : Int} {j : Nat} {v : V} {Q : Hp → Prop} (h : H p = some (.lst xs)) (e : ixN xs.length k = some j) (q : ∀ H', (hf : Fr1 p H H') → (hp : H' p = some (.lst (xs.set j v))) → Q H') : rSetL (.ref p) (.int k) v H Q :=
  ⟨p, xs, k, j, rfl, rfl, h, e, q _ Fr1.upd upd_same⟩
theorem fm_range {a m : Int} (h : 0 < m) : 0 ≤ a.fmod m ∧ a.fmod m < m := by
  rw [Int.fmod_eq_emod_of_nonneg _ (by omega)]
  exact ⟨Int.emod_nonneg _ (by omega), Int.emod_lt_of_pos _ h⟩
/-- what a law draws from -/
def Tape (H : Hp) (t : Addr) (b : Nat) : Prop := ∃ t0 t1 t2 : Int, H t = some (.lst [.int t0, .int t1, .int t2]) ∧ 0 ≤ t1 ∧ t1 < 2 ^ 62 ∧ 0 ≤ t2 ∧ t2 ≤ b
theorem Tape.same {H H' : Hp} {t : Addr} {b : Nat} (h : Tape H t b) (e : Same H H') : Tape H' t b := by
  obtain ⟨t0, t1, t2, h1, h2⟩ := h
  exact ⟨t0, t1, t2, e _ _ h1, h2⟩
theorem Tape.stay {H H' : Hp} {t : Addr} {b : Nat} (h : Tape H t b) (e : ∀ o, H t = some o → H' t = some o) : Tape H' t b := by
  obtain ⟨t0, t1, t2, h1, h2⟩ := h
  exact ⟨t0, t1, t2, e _ h1, h2⟩
theorem Tape.some {H : Hp} {t : Addr} {b : Nat} (h : Tape H t b) : ∃ xs, H t = Option.some (.lst xs) := by
  obtain ⟨t0, t1, t2, h1, h2⟩ := h
  exact ⟨_, h1⟩
theorem Tape.mono {H : Hp} {t : Addr} {b c : Nat} (h : Tape H t b) (l : b ≤ c) : Tape H t c := by
  obtain ⟨t0, t1, t2, h1, h2, h3, h4, h5⟩ := h
  exact ⟨t0, t1, t2, h1, h2, h3, h4, by omega⟩
end
end JB
namespace JB
open PySem L2
/-! ### the text by places -/
def top (i : Nat) : Stmt := PySem.Challenge.pw_joinback_k76_whole_long_objects.main.body.getD i (.Pass ⟨0, 0, 0, 0⟩)
abbrev s_is_name : Stmt := top 16
abbrev s_look_names : Stmt := top 17
abbrev s_counted : Stmt := top 20
abbrev s_walked : Stmt := top 22
abbrev s_number_by : Stmt := top 33
abbrev s_part_by : Stmt := top 34
abbrev s_parts_by : Stmt := top 35
abbrev s_order_by : Stmt := top 36
abbrev s_orders_in : Stmt := top 37
abbrev s_shown_list : Stmt := top 38
abbrev s_shown_way : Stmt := top 39
abbrev s_shown_or_no : Stmt := top 47
abbrev s_run : Stmt := top 49
abbrev s_law_tape : Stmt := top 53
abbrev s_law_draw : Stmt := top 54
abbrev s_law_names : Stmt := top 55
abbrev s_law_right_step : Stmt := top 56
abbrev s_law_labels : Stmt := top 57
abbrev s_law_stack_right : Stmt := top 58
abbrev s_law_back_right : Stmt := top 59
abbrev s_law_holding : Stmt := top 60
abbrev s_law_moment_right : Stmt := top 61
abbrev s_law_times : Stmt := top 62
abbrev s_law_mesh_right : Stmt := top 63
abbrev s_law_chain_way : Stmt := top 64
abbrev s_law_chain_right : Stmt := top 65
abbrev s_law_taken_right : Stmt := top 66
abbrev s_law : Stmt := top 67
abbrev s_Standing_init : Stmt := inClass (top 23) 0
abbrev s_Standing_has_name : Stmt := inClass (top 23) 1
abbrev s_Standing_ways_from : Stmt := inClass (top 23) 2
abbrev s_Standing_steps_on : Stmt := inClass (top 23) 3
abbrev s_Standing_class_with : Stmt := inClass (top 23) 4
abbrev s_Standing_rows_told : Stmt := inClass (top 23) 6
abbrev s_Standing_with_name : Stmt := inClass (top 23) 7
abbrev s_Standing_with_joining : Stmt := inClass (top 23) 8
abbrev s_Standing_crossing : Stmt := inClass (top 23) 9
abbrev s_Standing_without_joining : Stmt := inClass (top 23) 10
abbrev s_Standing_numbers_at : Stmt := inClass (top 23) 11
abbrev s_Standing_without_name : Stmt := inClass (top 23) 12
abbrev s_Mesh_init : Stmt := inClass (top 25) 0
abbrev s_Mesh_now : Stmt := inClass (top 25) 1
abbrev s_Mesh_look_names : Stmt := inClass (top 25) 2
abbrev s_Mesh_look_moment : Stmt := inClass (top 25) 3
abbrev s_Mesh_join : Stmt := inClass (top 25) 4
abbrev s_Mesh_take : Stmt := inClass (top 25) 5
abbrev s_Mesh_put_name : Stmt := inClass (top 25) 6
abbrev s_Mesh_drop_name : Stmt := inClass (top 25) 7
abbrev s_Mesh_names_now : Stmt := inClass (top 25) 8
abbrev s_Mesh_standing : Stmt := inClass (top 25) 9
abbrev s_Mesh_holding : Stmt := inClass (top 25) 10
abbrev s_Mesh_way : Stmt := inClass (top 25) 11
abbrev s_Mesh_steps : Stmt := inClass (top 25) 14
abbrev s_Mesh_class_of : Stmt := inClass (top 25) 15
abbrev s_Mesh_moment : Stmt := inClass (top 25) 17
abbrev s_Mesh_at : Stmt := inClass (top 25) 18
abbrev s_Mesh_times_together : Stmt := inClass (top 25) 20
abbrev s_Desk_init : Stmt := inClass (top 48) 0
abbrev s_Desk_named : Stmt := inClass (top 48) 1
abbrev s_Desk_joined : Stmt := inClass (top 48) 2
abbrev s_Desk_of_two : Stmt := inClass (top 48) 5
abbrev s_Desk_done : Stmt := inClass (top 48) 8
abbrev s_Desk_answer : Stmt := inClass (top 48) 9
abbrev s_Stack_init : Stmt := inClass (top 51) 0
abbrev s_Stack_look_names_there : Stmt := inClass (top 51) 1
abbrev s_Stack_up_from : Stmt := inClass (top 51) 2
abbrev s_Stack_both_up : Stmt := inClass (top 51) 3
abbrev s_Stack_put_under : Stmt := inClass (top 51) 4
abbrev s_Stack_join : Stmt := inClass (top 51) 5
abbrev s_Stack_weigh : Stmt := inClass (top 51) 6
abbrev s_Stack_back : Stmt := inClass (top 51) 7
abbrev s_Stack_deeds : Stmt := inClass (top 51) 8
abbrev s_Stack_standing : Stmt := inClass (top 51) 9
abbrev s_Stack_head_of : Stmt := inClass (top 51) 12
abbrev s_Stack_class_of : Stmt := inClass (top 51) 13
abbrev s_Stack_sum_of : Stmt := inClass (top 51) 18
/-! ### the facts of the top -/
def d_is_name : He.DefD := ⟨("is_name", none), "is_name", "is_name", defArgs s_is_name, defBody s_is_name, defScope s_is_name, [], []⟩
def d_look_names : He.DefD := ⟨("look_names_naming", none), "look_names", "look_names", defArgs s_look_names, defBody s_look_names, defScope s_look_names, [], []⟩
def d_counted : He.DefD := ⟨("counted", none), "counted", "counted", defArgs s_counted, defBody s_counted, defScope s_counted, [], []⟩
def d_walked : He.DefD := ⟨("walked", none), "walked", "walked", defArgs s_walked, defBody s_walked, defScope s_walked, [], []⟩
def d_number_by : He.DefD := ⟨("number_by", none), "number_by", "number_by", defArgs s_number_by, defBody s_number_by, defScope s_number_by, [], []⟩
def d_part_by : He.DefD := ⟨("part_by", none), "part_by", "part_by", defArgs s_part_by, defBody s_part_by, defScope s_part_by, [], []⟩
def d_parts_by : He.DefD := ⟨("parts_by", none), "parts_by", "parts_by", defArgs s_parts_by, defBody s_parts_by, defScope s_parts_by, [], []⟩
def d_order_by : He.DefD := ⟨("order_by", none), "order_by", "order_by", defArgs s_order_by, defBody s_order_by, defScope s_order_by, [], []⟩
def d_orders_in : He.DefD := ⟨("orders_in", none), "orders_in", "orders_in", defArgs s_orders_in, defBody s_orders_in, defScope s_orders_in, [], []⟩
def d_shown_list : He.DefD := ⟨("shown_list", none), "shown_list", "shown_list", defArgs s_shown_list, defBody s_shown_list, defScope s_shown_list, [], []⟩
def d_shown_way : He.DefD := ⟨("shown_way", none), "shown_way", "shown_way", defArgs s_shown_way, defBody s_shown_way, defScope s_shown_way, [], []⟩
def d_shown_or_no : He.DefD := ⟨("shown_or_no", none), "shown_or_no", "shown_or_no", defArgs s_shown_or_no, defBody s_shown_or_no, defScope s_shown_or_no, [], []⟩
def d_run : He.DefD := ⟨("run", none), "run", "run", defArgs s_run, defBody s_run, defScope s_run, [], []⟩
def d_law_tape : He.DefD := ⟨("_law_tape", none), "_law_tape", "_law_tape", defArgs s_law_tape, defBody s_law_tape, defScope s_law_tape, [], []⟩
def d_law_draw : He.DefD := ⟨("_law_draw", none), "_law_draw", "_law_draw", defArgs s_law_draw, defBody s_law_draw, defScope s_law_draw, [], []⟩
def d_law_names : He.DefD := ⟨("_law_names", none), "_law_names", "_law_names", defArgs s_law_names, defBody s_law_names, defScope s_law_names, [], []⟩
def d_law_right_step : He.DefD := ⟨("_law_right_step", none), "_law_right_step", "_law_right_step", defArgs s_law_right_step, defBody s_law_right_step, defScope s_law_right_step, [], []⟩
def d_law_labels : He.DefD := ⟨("_law_labels", none), "_law_labels", "_law_labels", defArgs s_law_labels, defBody s_law_labels, defScope s_law_labels, [], []⟩
def d_law_stack_right : He.DefD := ⟨("_law_stack_right", none), "_law_stack_right", "_law_stack_right", defArgs s_law_stack_right, defBody s_law_stack_right, defScope s_law_stack_right, [], []⟩
def d_law_back_right : He.DefD := ⟨("_law_back_right", none), "_law_back_right", "_law_back_right", defArgs s_law_back_right, defBody s_law_back_right, defScope s_law_back_right, [], []⟩
def d_law_holding : He.DefD := ⟨("_law_holding", none), "_law_holding", "_law_holding", defArgs s_law_holding, defBody s_law_holding, defScope s_law_holding, [], []⟩
def d_law_moment_right : He.DefD := ⟨("_law_moment_right", none), "_law_moment_right", "_law_moment_right", defArgs s_law_moment_right, defBody s_law_moment_right, defScope s_law_moment_right, [], []⟩
def d_law_times : He.DefD := ⟨("_law_times", none), "_law_times", "_law_times", defArgs s_law_times, defBody s_law_times, defScope s_law_times, [], []⟩
def d_law_mesh_right : He.DefD := ⟨("_law_mesh_right", none), "_law_mesh_right", "_law_mesh_right", defArgs s_law_mesh_right, defBody s_law_mesh_right, defScope s_law_mesh_right, [], []⟩
def d_law_chain_way : He.DefD := ⟨("_law_chain_way", none), "_law_chain_way", "_law_chain_way", defArgs s_law_chain_way, defBody s_law_chain_way, defScope s_law_chain_way, [], []⟩
def d_law_chain_right : He.DefD := ⟨("_law_chain_right", none), "_law_chain_right", "_law_chain_right", defArgs s_law_chain_right, defBody s_law_chain_right, defScope s_law_chain_right, [], []⟩
def d_law_taken_right : He.DefD := ⟨("_law_taken_right", none), "_law_taken_right", "_law_taken_right", defArgs s_law_taken_right, defBody s_law_taken_right, defScope s_law_taken_right, [], []⟩
def d_law : He.DefD := ⟨("law", none), "law", "law", defArgs s_law, defBody s_law, defScope s_law, [], []⟩
def d_Standing_init : He.DefD := ⟨("Standing", some "__init__"), "__init__", "Standing.__init__", defArgs s_Standing_init, defBody s_Standing_init, defScope s_Standing_init, [], []⟩
def d_Standing_has_name : He.DefD := ⟨("Standing", some "has_name"), "has_name", "Standing.has_name", defArgs s_Standing_has_name, defBody s_Standing_has_name, defScope s_Standing_has_name, [], []⟩
def d_Standing_ways_from : He.DefD := ⟨("Standing", some "ways_from"), "ways_from", "Standing.ways_from", defArgs s_Standing_ways_from, defBody s_Standing_ways_from, defScope s_Standing_ways_from, [], []⟩
def d_Standing_steps_on : He.DefD := ⟨("Standing", some "steps_on"), "steps_on", "Standing.steps_on", defArgs s_Standing_steps_on, defBody s_Standing_steps_on, defScope s_Standing_steps_on, [], []⟩
def d_Standing_class_with : He.DefD := ⟨("Standing", some "class_with"), "class_with", "Standing.class_with", defArgs s_Standing_class_with, defBody s_Standing_class_with, defScope s_Standing_class_with, [], []⟩
def d_Standing_rows_told : He.DefD := ⟨("Standing", some "rows_told"), "rows_told", "Standing.rows_told", defArgs s_Standing_rows_told, defBody s_Standing_rows_told, defScope s_Standing_rows_told, [], []⟩
def d_Standing_with_name : He.DefD := ⟨("Standing", some "with_name"), "with_name", "Standing.with_name", defArgs s_Standing_with_name, defBody s_Standing_with_name, defScope s_Standing_with_name, [], []⟩
def d_Standing_with_joining : He.DefD := ⟨("Standing", some "with_joining"), "with_joining", "Standing.with_joining", defArgs s_Standing_with_joining, defBody s_Standing_with_joining, defScope s_Standing_with_joining, [], []⟩
def d_Standing_crossing : He.DefD := ⟨("Standing", some "crossing"), "crossing", "Standing.crossing", defArgs s_Standing_crossing, defBody s_Standing_crossing, defScope s_Standing_crossing, [], []⟩
def d_Standing_without_joining : He.DefD := ⟨("Standing", some "without_joining"), "without_joining", "Standing.without_joining", defArgs s_Standing_without_joining, defBody s_Standing_without_joining, defScope s_Standing_without_joining, [], []⟩
def d_Standing_numbers_at : He.DefD := ⟨("Standing", some "numbers_at"), "numbers_at", "Standing.numbers_at", defArgs s_Standing_numbers_at, defBody s_Standing_numbers_at, defScope s_Standing_numbers_at, [], []⟩
def d_Standing_without_name : He.DefD := ⟨("Standing", some "without_name"), "without_name", "Standing.without_name", defArgs s_Standing_without_name, defBody s_Standing_without_name, defScope s_Standing_without_name, [], []⟩
def d_Mesh_init : He.DefD := ⟨("Mesh", some "__init__"), "__init__", "Mesh.__init__", defArgs s_Mesh_init, defBody s_Mesh_init, defScope s_Mesh_init, [], []⟩
def d_Mesh_now : He.DefD := ⟨("Mesh", some "now"), "now", "Mesh.now", defArgs s_Mesh_now, defBody s_Mesh_now, defScope s_Mesh_now, [], []⟩
def d_Mesh_look_names : He.DefD := ⟨("Mesh", some "look_names"), "look_names", "Mesh.look_names", defArgs s_Mesh_look_names, defBody s_Mesh_look_names, defScope s_Mesh_look_names, [], []⟩
def d_Mesh_look_moment : He.DefD := ⟨("Mesh", some "look_moment"), "look_moment", "Mesh.look_moment", defArgs s_Mesh_look_moment, defBody s_Mesh_look_moment, defScope s_Mesh_look_moment, [], []⟩
def d_Mesh_join : He.DefD := ⟨("Mesh", some "join"), "join", "Mesh.join", defArgs s_Mesh_join, defBody s_Mesh_join, defScope s_Mesh_join, [], []⟩
def d_Mesh_take : He.DefD := ⟨("Mesh", some "take"), "take", "Mesh.take", defArgs s_Mesh_take, defBody s_Mesh_take, defScope s_Mesh_take, [], []⟩
def d_Mesh_put_name : He.DefD := ⟨("Mesh", some "put_name"), "put_name", "Mesh.put_name", defArgs s_Mesh_put_name, defBody s_Mesh_put_name, defScope s_Mesh_put_name, [], []⟩
def d_Mesh_drop_name : He.DefD := ⟨("Mesh", some "drop_name"), "drop_name", "Mesh.drop_name", defArgs s_Mesh_drop_name, defBody s_Mesh_drop_name, defScope s_Mesh_drop_name, [], []⟩
def d_Mesh_names_now : He.DefD := ⟨("Mesh", some "names_now"), "names_now", "Mesh.names_now", defArgs s_Mesh_names_now, defBody s_Mesh_names_now, defScope s_Mesh_names_now, [], []⟩
def d_Mesh_standing : He.DefD := ⟨("Mesh", some "standing"), "standing", "Mesh.standing", defArgs s_Mesh_standing, defBody s_Mesh_standing, defScope s_Mesh_standing, [], []⟩
def d_Mesh_holding : He.DefD := ⟨("Mesh", some "holding"), "holding", "Mesh.holding", defArgs s_Mesh_holding, defBody s_Mesh_holding, defScope s_Mesh_holding, [], []⟩
def d_Mesh_way : He.DefD := ⟨("Mesh", some "way"), "way", "Mesh.way", defArgs s_Mesh_way, defBody s_Mesh_way, defScope s_Mesh_way, [], []⟩
def d_Mesh_steps : He.DefD := ⟨("Mesh", some "steps"), "steps", "Mesh.steps", defArgs s_Mesh_steps, defBody s_Mesh_steps, defScope s_Mesh_steps, [], []⟩
def d_Mesh_class_of : He.DefD := ⟨("Mesh", some "class_of"), "class_of", "Mesh.class_of", defArgs s_Mesh_class_of, defBody s_Mesh_class_of, defScope s_Mesh_class_of, [], []⟩
def d_Mesh_moment : He.DefD := ⟨("Mesh", some "moment"), "moment", "Mesh.moment", defArgs s_Mesh_moment, defBody s_Mesh_moment, defScope s_Mesh_moment, [], []⟩
def d_Mesh_at : He.DefD := ⟨("Mesh", some "at"), "at", "Mesh.at", defArgs s_Mesh_at, defBody s_Mesh_at, defScope s_Mesh_at, [], []⟩
def d_Mesh_times_together : He.DefD := ⟨("Mesh", some "times_together"), "times_together", "Mesh.times_together", defArgs s_Mesh_times_together, defBody s_Mesh_times_together, defScope s_Mesh_times_together, [], []⟩
def d_Desk_init : He.DefD := ⟨("Desk", some "__init__"), "__init__", "Desk.__init__", defArgs s_Desk_init, defBody s_Desk_init, defScope s_Desk_init, [], []⟩
def d_Desk_named : He.DefD := ⟨("Desk", some "named"), "named", "Desk.named", defArgs s_Desk_named, defBody s_Desk_named, defScope s_Desk_named, [], []⟩
def d_Desk_joined : He.DefD := ⟨("Desk", some "joined"), "joined", "Desk.joined", defArgs s_Desk_joined, defBody s_Desk_joined, defScope s_Desk_joined, [], []⟩
def d_Desk_of_two : He.DefD := ⟨("Desk", some "of_two"), "of_two", "Desk.of_two", defArgs s_Desk_of_two, defBody s_Desk_of_two, defScope s_Desk_of_two, [], []⟩
def d_Desk_done : He.DefD := ⟨("Desk", some "done"), "done", "Desk.done", defArgs s_Desk_done, defBody s_Desk_done, defScope s_Desk_done, [], []⟩
def d_Desk_answer : He.DefD := ⟨("Desk", some "answer"), "answer", "Desk.answer", defArgs s_Desk_answer, defBody s_Desk_answer, defScope s_Desk_answer, [], []⟩
def d_Stack_init : He.DefD := ⟨("Stack", some "__init__"), "__init__", "Stack.__init__", defArgs s_Stack_init, defBody s_Stack_init, defScope s_Stack_init, [], []⟩
def d_Stack_look_names_there : He.DefD := ⟨("Stack", some "look_names_there"), "look_names_there", "Stack.look_names_there", defArgs s_Stack_look_names_there, defBody s_Stack_look_names_there, defScope s_Stack_look_names_there, [], []⟩
def d_Stack_up_from : He.DefD := ⟨("Stack", some "up_from"), "up_from", "Stack.up_from", defArgs s_Stack_up_from, defBody s_Stack_up_from, defScope s_Stack_up_from, [], []⟩
def d_Stack_both_up : He.DefD := ⟨("Stack", some "both_up"), "both_up", "Stack.both_up", defArgs s_Stack_both_up, defBody s_Stack_both_up, defScope s_Stack_both_up, [], []⟩
def d_Stack_put_under : He.DefD := ⟨("Stack", some "put_under"), "put_under", "Stack.put_under", defArgs s_Stack_put_under, defBody s_Stack_put_under, defScope s_Stack_put_under, [], []⟩
def d_Stack_join : He.DefD := ⟨("Stack", some "join"), "join", "Stack.join", defArgs s_Stack_join, defBody s_Stack_join, defScope s_Stack_join, [], []⟩
def d_Stack_weigh : He.DefD := ⟨("Stack", some "weigh"), "weigh", "Stack.weigh", defArgs s_Stack_weigh, defBody s_Stack_weigh, defScope s_Stack_weigh, [], []⟩
def d_Stack_back : He.DefD := ⟨("Stack", some "back"), "back", "Stack.back", defArgs s_Stack_back, defBody s_Stack_back, defScope s_Stack_back, [], []⟩
def d_Stack_deeds : He.DefD := ⟨("Stack", some "deeds"), "deeds", "Stack.deeds", defArgs s_Stack_deeds, defBody s_Stack_deeds, defScope s_Stack_deeds, [], []⟩
def d_Stack_standing : He.DefD := ⟨("Stack", some "standing"), "standing", "Stack.standing", defArgs s_Stack_standing, defBody s_Stack_standing, defScope s_Stack_standing, [], []⟩
def d_Stack_head_of : He.DefD := ⟨("Stack", some "head_of"), "head_of", "Stack.head_of", defArgs s_Stack_head_of, defBody s_Stack_head_of, defScope s_Stack_head_of, [], []⟩
def d_Stack_class_of : He.DefD := ⟨("Stack", some "class_of"), "class_of", "Stack.class_of", defArgs s_Stack_class_of, defBody s_Stack_class_of, defScope s_Stack_class_of, [], []⟩
def d_Stack_sum_of : He.DefD := ⟨("Stack", some "sum_of"), "sum_of", "Stack.sum_of", defArgs s_Stack_sum_of, defBody s_Stack_sum_of, defScope s_Stack_sum_of, [], []⟩
def fn : List He.DefD := [d_is_name, d_look_names, d_counted, d_walked, d_number_by, d_part_by, d_parts_by, d_order_by, d_orders_in, d_shown_list, d_shown_way, d_shown_or_no, d_run, d_law_tape, d_law_draw, d_law_names, d_law_right_step, d_law_labels, d_law_stack_right, d_law_back_right, d_law_holding, d_law_moment_right, d_law_times, d_law_mesh_right, d_law_chain_way, d_law_chain_right, d_law_taken_right, d_law, d_Standing_init, d_Standing_has_name, d_Standing_ways_from, d_Standing_steps_on, d_Standing_class_with, d_Standing_rows_told, d_Standing_with_name, d_Standing_with_joining, d_Standing_crossing, d_Standing_without_joining, d_Standing_numbers_at, d_Standing_without_name, d_Mesh_init, d_Mesh_now, d_Mesh_look_names, d_Mesh_look_moment, d_Mesh_join, d_Mesh_take, d_Mesh_put_name, d_Mesh_drop_name, d_Mesh_names_now, d_Mesh_standing, d_Mesh_holding, d_Mesh_way, d_Mesh_steps, d_Mesh_class_of, d_Mesh_moment, d_Mesh_at, d_Mesh_times_together, d_Desk_init, d_Desk_named, d_Desk_joined, d_Desk_of_two, d_Desk_done, d_Desk_answer, d_Stack_init, d_Stack_look_names_there, d_Stack_up_from, d_Stack_both_up, d_Stack_put_under, d_Stack_join, d_Stack_weigh, d_Stack_back, d_Stack_deeds, d_Stack_standing, d_Stack_head_of, d_Stack_class_of, d_Stack_sum_of]
def fa : List He.Fa := [.glo "is_name", .glo "look_names", .glo "counted", .glo "walked", .glo "number_by", .glo "part_by", .glo "parts_by", .glo "order_by", .glo "orders_in", .glo "shown_list", .glo "shown_way", .glo "shown_or_no", .glo "run", .glo "_law_tape", .glo "_law_draw", .glo "_law_names", .glo "_law_right_step", .glo "_law_labels", .glo "_law_stack_right", .glo "_law_back_right", .glo "_law_holding", .glo "_law_moment_right", .glo "_law_times", .glo "_law_mesh_right", .glo "_law_chain_way", .glo "_law_chain_right", .glo "_law_taken_right", .glo "law", .glo "look_names_naming", .glo "Standing", .glo "Mesh", .glo "Desk", .glo "Stack", .glo "JoinError", .glo "FORMS", .free "len", .free "dict", .free "list", .free "sorted", .free "isinstance", .free "str", .free "all", .free "enumerate", .free "zip", .free "range", .free "int", .free "sum", .free "abs", .free "min", .free "max", .free "tuple", .free "reversed", .int "MOST_LETTERS" 8, .int "MOST" 1000000000000, .int "MOST_TURN" 1000, .int "MOST_FIGURES" 13, .str "LETTERS" "abcdefghijklmnopqrstuvwxyz", .str "FIGURES" "0123456789", .cls "Standing", .mkr "Standing", .noat "Standing" "own_names", .noat "Standing" "rows", .noat "Standing" "held", .noat "Standing" "coming", .noat "Standing" "near", .meth "Standing" "has_name", .meth "Standing" "ways_from", .meth "Standing" "steps_on", .meth "Standing" "class_with", .meth "Standing" "rows_told", .meth "Standing" "with_name", .meth "Standing" "with_joining", .meth "Standing" "crossing", .meth "Standing" "without_joining", .meth "Standing" "numbers_at", .meth "Standing" "without_name", .cls "Mesh", .mkr "Mesh", .noat "Mesh" "turn", .noat "Mesh" "past", .meth "Mesh" "now", .meth "Mesh" "look_names", .meth "Mesh" "look_moment", .meth "Mesh" "join", .meth "Mesh" "take", .meth "Mesh" "put_name", .meth "Mesh" "drop_name", .meth "Mesh" "names_now", .meth "Mesh" "standing", .meth "Mesh" "holding", .meth "Mesh" "way", .meth "Mesh" "steps", .meth "Mesh" "class_of", .meth "Mesh" "moment", .meth "Mesh" "at", .meth "Mesh" "times_together", .cls "Desk", .mkr "Desk", .noat "Desk" "mesh", .noat "Desk" "places", .noat "Desk" "weights", .meth "Desk" "named", .meth "Desk" "joined", .meth "Desk" "of_two", .meth "Desk" "done", .meth "Desk" "answer", .cls "Stack", .mkr "Stack", .noat "Stack" "order", .noat "Stack" "places", .noat "Stack" "turn", .noat "Stack" "above", .noat "Stack" "rise", .noat "Stack" "sizes", .noat "Stack" "weights", .noat "Stack" "done_deeds", .noat "Stack" "looked", .meth "Stack" "look_names_there", .meth "Stack" "up_from", .meth "Stack" "both_up", .meth "Stack" "put_under", .meth "Stack" "join", .meth "Stack" "weigh", .meth "Stack" "back", .meth "Stack" "deeds", .meth "Stack" "standing", .meth "Stack" "head_of", .meth "Stack" "class_of", .meth "Stack" "sum_of"]
def ts_keys : List Str := ["name", "drop", "join", "take", "weigh", "with", "steps", "way", "few", "class", "classes", "holding", "sum", "leader", "times", "then"]
def ts : List He.Tab := [((fun K => He.ga K "FORMS"), ts_keys)]
abbrev R : PySem.W.OpenRow := PySem.W.OpenLaw.row PySem.Challenge.rw_joinback_k76_whole_long_objects
/-- what the written table holds at some keys -/
def strOf : Value → Option Str
  | .str z _ => some z
  | _ => none
def formB (K : PySem.W.Frag) (k : Str) (zs : List Str) : Bool := match PySem.W.nsIn K (He.ga K "FORMS") k with
  | some (some (.ref a)) => (match K.lookup a with
    | some ⟨.type c, _, .seq its _, _⟩ => decide (c = "tuple") && decide (its.toList.map strOf = zs.map some)
    | _ => false)
  | _ => false
def exF (K : PySem.W.Frag) : Bool := formB K "name" ["name"] && (formB K "join" ["name", "name", "step"] && formB K "way" ["name", "name"])
abbrev AlF : Type := He.AlT × Bool
def obsF (g : Addr → Option Obj) : AlF := (He.obsT fa fn ts (He.frG g (He.asD g 4)), exF (He.frG g (He.asD g 4)))
abbrev hk : PySem.W.Hook where
  α := AlF
  obs := fun s => obsF s.heap.get?
  val := fun w => (He.valT fn ts w, true)
  says := fun w h => ∃ K : PySem.W.Frag, K.In h ∧ He.SaysT fa fn ts w K ∧ exF K = true
  of := fun _ _ e => ⟨_, He.frG_in, congrArg (fun z : AlF => z.1) e, congrArg (fun z : AlF => z.2) e⟩
  keeps := fun _ _ _ ⟨K, hK, c⟩ k => ⟨K, PySem.W.Frag.In.keeps hK k, c⟩
def ob (s : PySem.W.SharedT) : AlF := obsF (HandSHeadRun.getT s)
theorem ob_eq (s : PySem.W.SharedT) : ob s = hk.obs s.abs := by
  have e : HandSHeadRun.getT s = s.abs.heap.get? := funext (HandSHeadRun.getT_eq s)
  show obsF _ = obsF _
  rw [e]
theorem strOf_vals : ∀ {us : List Value} {zs : List Str}, us.map strOf = zs.map some → Vals (zs.map V.str) us
  | [], [], _ => .nil
  | [], _ :: _, h => by cases h
  | _ :: _, [], h => by cases h
  | u :: r, z :: t, h => by
    rw [List.map_cons, List.map_cons] at h
    obtain ⟨h1, h2⟩ := List.cons.inj h
    refine .cons ?_ (strOf_vals h2)
    cases u with
    | str y k => exact ⟨k, by rw [Option.some.inj h1]⟩
    | _ => cases h1
theorem formB_ok {K : PySem.W.Frag} {k : Str} {zs : List Str} (h : formB K k zs = true) (hz : zs.length ≤ 1000) : ∃ a, PySem.W.nsIn K (He.ga K "FORMS") k = some (some (.ref a)) ∧ ∀ H, SqT K H a (zs.map V.str) := by
  unfold formB at h
  cases e : PySem.W.nsIn K (He.ga K "FORMS") k with
  | none => rw [e] at h; cases h
  | some r =>
    rw [e] at h
    cases r with
    | none => cases h
    | some u =>
      cases u with
      | ref a =>
        cases q : K.lookup a with
        | none => simp only [q] at h; cases h
        | some o =>
          obtain ⟨oc, od, dt, osl⟩ := o
          simp only [q] at h
          cases oc with
          | type c =>
            cases dt with
            | seq its n =>
              obtain ⟨h1, h2⟩ := Bool.and_eq_true_iff.mp h
              have h1 := of_decide_eq_true h1
              have h2 := of_decide_eq_true h2
              subst h1
              refine ⟨a, rfl, fun H => .inr ⟨_, its, n, q, rfl, rfl, ?_, strOf_vals h2⟩⟩
              have := congrArg List.length h2
              rw [List.length_map, List.length_map, Array.length_toList] at this
              exact sz _ (by omega)
            | _ => cases h
          | _ => cases h
      | _ => cases h
def loose0 : List Str := ["_wall", "JoinError", "BadName", "BadRow", "NoName", "NoJoin", "NoMoment", "edges_by", "far_from", "first_by", "fewest_way", "LETTERS", "MOST_LETTERS", "is_name", "look_names", "look_names_naming"]
def loose1 : List Str := ["counted", "walked", "Standing", "Mesh", "FIGURES", "MOST", "MOST_TURN", "MOST_FIGURES", "RULES", "FORMS", "number_by", "part_by", "parts_by", "order_by", "orders_in", "shown_list"]
def loose2 : List Str := ["shown_way", "shown_classes", "ends_of", "greatest_of", "leader_of", "shown_truth", "shown_or_no", "Desk", "run", "Stack", "_law_tape", "_law_draw", "_law_names", "_law_right_step", "_law_labels", "_law_stack_right"]
def loose3 : List Str := ["_law_back_right", "_law_holding", "_law_moment_right", "_law_times", "_law_mesh_right", "_law_chain_way", "_law_chain_right", "_law_taken_right"]
def loose : List Str := loose0 ++ loose1 ++ loose2 ++ loose3
/-- what the walk asks of the top -/
structure Txt (w : World) (K : PySem.W.Frag) (mg : Str → Option Value) : Prop where
  s : He.SaysT fa fn ts w K
  f : exF K = true
  x : ∃ h : Heap, K.In h ∧ h.Ns mainGlobals mg
abbrev gA (K : PySem.W.Frag) (x : Str) : Addr := He.ga K x
abbrev mA (K : PySem.W.Frag) (C m : Str) : Addr := He.ma K (He.ga K C) m
section
variable {w : World} {K : PySem.W.Frag} {mg : Str → Option Value}
theorem Txt.glo (T : Txt w K mg) (i : Nat) {x : Str} (h : fa[i]? = some (.glo x) := by rfl) : mg x = some (.ref (gA K x)) := by
  obtain ⟨hp, X, G⟩ := T.x
  exact He.glo_ok X G (T.s.d.fact i h)
theorem Txt.free (T : Txt w K mg) (i : Nat) {x : Str} (h : fa[i]? = some (.free x) := by rfl) : mg x = none := by
  obtain ⟨hp, X, G⟩ := T.x
  exact He.free_ok X G (T.s.d.fact i h)
theorem Txt.int (T : Txt w K mg) (i : Nat) {x : Str} {n : Int} (h : fa[i]? = some (.int x n) := by rfl) : ∃ t, mg x = some (.int n t) := by
  obtain ⟨hp, X, G⟩ := T.x
  exact He.int_ok X G (T.s.d.fact i h)
theorem Txt.str (T : Txt w K mg) (i : Nat) {x z : Str} (h : fa[i]? = some (.str x z) := by rfl) : ∃ t, mg x = some (.str z t) := by
  obtain ⟨hp, X, G⟩ := T.x
  exact He.str_ok X G (T.s.d.fact i h)
theorem Txt.cls (T : Txt w K mg) (i : Nat) {x : Str} (h : fa[i]? = some (.cls x) := by rfl) : Cls K (gA K x) := He.cls_ok (T.s.d.fact i h)
theorem Txt.noat (T : Txt w K mg) (i : Nat) {x f : Str} (h : fa[i]? = some (.noat x f) := by rfl) : NoAttr K (gA K x) f := He.noat_ok (T.s.d.fact i h)
theorem Txt.meth (T : Txt w K mg) (i : Nat) {x m : Str} (h : fa[i]? = some (.meth x m) := by rfl) : Meth K (gA K x) m (mA K x m) := He.meth_ok (T.s.d.fact i h)
theorem Txt.mkr (T : Txt w K mg) (i : Nat) {x : Str} (h : fa[i]? = some (.mkr x) := by rfl) : Mk K (gA K x) (mA K x "__init__") := He.mkr_ok (T.s.d.fact i h)
theorem Tg_is_name (T : Txt w K mg) : mg "is_name" = some (.ref (gA K "is_name")) := T.glo 0
theorem Tg_look_names (T : Txt w K mg) : mg "look_names" = some (.ref (gA K "look_names")) := T.glo 1
theorem Tg_counted (T : Txt w K mg) : mg "counted" = some (.ref (gA K "counted")) := T.glo 2
theorem Tg_walked (T : Txt w K mg) : mg "walked" = some (.ref (gA K "walked")) := T.glo 3
theorem Tg_number_by (T : Txt w K mg) : mg "number_by" = some (.ref (gA K "number_by")) := T.glo 4
theorem Tg_part_by (T : Txt w K mg) : mg "part_by" = some (.ref (gA K "part_by")) := T.glo 5
theorem Tg_parts_by (T : Txt w K mg) : mg "parts_by" = some (.ref (gA K "parts_by")) := T.glo 6
theorem Tg_order_by (T : Txt w K mg) : mg "order_by" = some (.ref (gA K "order_by")) := T.glo 7
theorem Tg_orders_in (T : Txt w K mg) : mg "orders_in" = some (.ref (gA K "orders_in")) := T.glo 8
theorem Tg_shown_list (T : Txt w K mg) : mg "shown_list" = some (.ref (gA K "shown_list")) := T.glo 9
theorem Tg_shown_way (T : Txt w K mg) : mg "shown_way" = some (.ref (gA K "shown_way")) := T.glo 10
theorem Tg_shown_or_no (T : Txt w K mg) : mg "shown_or_no" = some (.ref (gA K "shown_or_no")) := T.glo 11
theorem Tg_run (T : Txt w K mg) : mg "run" = some (.ref (gA K "run")) := T.glo 12
theorem Tg_law_tape (T : Txt w K mg) : mg "_law_tape" = some (.ref (gA K "_law_tape")) := T.glo 13
theorem Tg_law_draw (T : Txt w K mg) : mg "_law_draw" = some (.ref (gA K "_law_draw")) := T.glo 14
theorem Tg_law_names (T : Txt w K mg) : mg "_law_names" = some (.ref (gA K "_law_names")) := T.glo 15
theorem Tg_law_right_step (T : Txt w K mg) : mg "_law_right_step" = some (.ref (gA K "_law_right_step")) := T.glo 16
theorem Tg_law_labels (T : Txt w K mg) : mg "_law_labels" = some (.ref (gA K "_law_labels")) := T.glo 17
theorem Tg_law_stack_right (T : Txt w K mg) : mg "_law_stack_right" = some (.ref (gA K "_law_stack_right")) := T.glo 18
theorem Tg_law_back_right (T : Txt w K mg) : mg "_law_back_right" = some (.ref (gA K "_law_back_right")) := T.glo 19
theorem Tg_law_holding (T : Txt w K mg) : mg "_law_holding" = some (.ref (gA K "_law_holding")) := T.glo 20
theorem Tg_law_moment_right (T : Txt w K mg) : mg "_law_moment_right" = some (.ref (gA K "_law_moment_right")) := T.glo 21
theorem Tg_law_times (T : Txt w K mg) : mg "_law_times" = some (.ref (gA K "_law_times")) := T.glo 22
theorem Tg_law_mesh_right (T : Txt w K mg) : mg "_law_mesh_right" = some (.ref (gA K "_law_mesh_right")) := T.glo 23
theorem Tg_law_chain_way (T : Txt w K mg) : mg "_law_chain_way" = some (.ref (gA K "_law_chain_way")) := T.glo 24
theorem Tg_law_chain_right (T : Txt w K mg) : mg "_law_chain_right" = some (.ref (gA K "_law_chain_right")) := T.glo 25
theorem Tg_law_taken_right (T : Txt w K mg) : mg "_law_taken_right" = some (.ref (gA K "_law_taken_right")) := T.glo 26
theorem Tg_law (T : Txt w K mg) : mg "law" = some (.ref (gA K "law")) := T.glo 27
theorem Tg_look_names_naming (T : Txt w K mg) : mg "look_names_naming" = some (.ref (gA K "look_names_naming")) := T.glo 28
theorem Tg_Standing (T : Txt w K mg) : mg "Standing" = some (.ref (gA K "Standing")) := T.glo 29
theorem Tg_Mesh (T : Txt w K mg) : mg "Mesh" = some (.ref (gA K "Mesh")) := T.glo 30
theorem Tg_Desk (T : Txt w K mg) : mg "Desk" = some (.ref (gA K "Desk")) := T.glo 31
theorem Tg_Stack (T : Txt w K mg) : mg "Stack" = some (.ref (gA K "Stack")) := T.glo 32
theorem Tg_JoinError (T : Txt w K mg) : mg "JoinError" = some (.ref (gA K "JoinError")) := T.glo 33
theorem Tg_FORMS (T : Txt w K mg) : mg "FORMS" = some (.ref (gA K "FORMS")) := T.glo 34
theorem Tf_len (T : Txt w K mg) : mg "len" = none := T.free 35
theorem Tf_dict (T : Txt w K mg) : mg "dict" = none := T.free 36
theorem Tf_list (T : Txt w K mg) : mg "list" = none := T.free 37
theorem Tf_sorted (T : Txt w K mg) : mg "sorted" = none := T.free 38
theorem Tf_isinstance (T : Txt w K mg) : mg "isinstance" = none := T.free 39
theorem Tf_str (T : Txt w K mg) : mg "str" = none := T.free 40
theorem Tf_all (T : Txt w K mg) : mg "all" = none := T.free 41
theorem Tf_enumerate (T : Txt w K mg) : mg "enumerate" = none := T.free 42
theorem Tf_zip (T : Txt w K mg) : mg "zip" = none := T.free 43
theorem Tf_range (T : Txt w K mg) : mg "range" = none := T.free 44
theorem Tf_int (T : Txt w K mg) : mg "int" = none := T.free 45
theorem Tf_sum (T : Txt w K mg) : mg "sum" = none := T.free 46
theorem Tf_abs (T : Txt w K mg) : mg "abs" = none := T.free 47
theorem Tf_min (T : Txt w K mg) : mg "min" = none := T.free 48
theorem Tf_max (T : Txt w K mg) : mg "max" = none := T.free 49
theorem Tf_tuple (T : Txt w K mg) : mg "tuple" = none := T.free 50
theorem Tf_reversed (T : Txt w K mg) : mg "reversed" = none := T.free 51
theorem Ti_MOST_LETTERS (T : Txt w K mg) : ∃ t, mg "MOST_LETTERS" = some (.int 8 t) := T.int 52
theorem Ti_MOST (T : Txt w K mg) : ∃ t, mg "MOST" = some (.int 1000000000000 t) := T.int 53
theorem Ti_MOST_TURN (T : Txt w K mg) : ∃ t, mg "MOST_TURN" = some (.int 1000 t) := T.int 54
theorem Ti_MOST_FIGURES (T : Txt w K mg) : ∃ t, mg "MOST_FIGURES" = some (.int 13 t) := T.int 55
theorem Ts_LETTERS (T : Txt w K mg) : ∃ t, mg "LETTERS" = some (.str "abcdefghijklmnopqrstuvwxyz" t) := T.str 56
theorem Ts_FIGURES (T : Txt w K mg) : ∃ t, mg "FIGURES" = some (.str "0123456789" t) := T.str 57
theorem Tc_Standing (T : Txt w K mg) : Cls K (gA K "Standing") := T.cls 58
theorem Tk_Standing (T : Txt w K mg) : Mk K (gA K "Standing") (mA K "Standing" "__init__") := T.mkr 59
theorem Tn_Standing_own_names (T : Txt w K mg) : NoAttr K (gA K "Standing") "own_names" := T.noat 60
theorem Tn_Standing_rows (T : Txt w K mg) : NoAttr K (gA K "Standing") "rows" := T.noat 61
theorem Tn_Standing_held (T : Txt w K mg) : NoAttr K (gA K "Standing") "held" := T.noat 62
theorem Tn_Standing_coming (T : Txt w K mg) : NoAttr K (gA K "Standing") "coming" := T.noat 63
theorem Tn_Standing_near (T : Txt w K mg) : NoAttr K (gA K "Standing") "near" := T.noat 64
theorem Tm_Standing_has_name (T : Txt w K mg) : Meth K (gA K "Standing") "has_name" (mA K "Standing" "has_name") := T.meth 65
theorem Tm_Standing_ways_from (T : Txt w K mg) : Meth K (gA K "Standing") "ways_from" (mA K "Standing" "ways_from") := T.meth 66
theorem Tm_Standing_steps_on (T : Txt w K mg) : Meth K (gA K "Standing") "steps_on" (mA K "Standing" "steps_on") := T.meth 67
theorem Tm_Standing_class_with (T : Txt w K mg) : Meth K (gA K "Standing") "class_with" (mA K "Standing" "class_with") := T.meth 68
theorem Tm_Standing_rows_told (T : Txt w K mg) : Meth K (gA K "Standing") "rows_told" (mA K "Standing" "rows_told") := T.meth 69
theorem Tm_Standing_with_name (T : Txt w K mg) : Meth K (gA K "Standing") "with_name" (mA K "Standing" "with_name") := T.meth 70
theorem Tm_Standing_with_joining (T : Txt w K mg) : Meth K (gA K "Standing") "with_joining" (mA K "Standing" "with_joining") := T.meth 71
theorem Tm_Standing_crossing (T : Txt w K mg) : Meth K (gA K "Standing") "crossing" (mA K "Standing" "crossing") := T.meth 72
theorem Tm_Standing_without_joining (T : Txt w K mg) : Meth K (gA K "Standing") "without_joining" (mA K "Standing" "without_joining") := T.meth 73
theorem Tm_Standing_numbers_at (T : Txt w K mg) : Meth K (gA K "Standing") "numbers_at" (mA K "Standing" "numbers_at") := T.meth 74
theorem Tm_Standing_without_name (T : Txt w K mg) : Meth K (gA K "Standing") "without_name" (mA K "Standing" "without_name") := T.meth 75
theorem Tc_Mesh (T : Txt w K mg) : Cls K (gA K "Mesh") := T.cls 76
theorem Tk_Mesh (T : Txt w K mg) : Mk K (gA K "Mesh") (mA K "Mesh" "__init__") := T.mkr 77
theorem Tn_Mesh_turn (T : Txt w K mg) : NoAttr K (gA K "Mesh") "turn" := T.noat 78
theorem Tn_Mesh_past (T : Txt w K mg) : NoAttr K (gA K "Mesh") "past" := T.noat 79
theorem Tm_Mesh_now (T : Txt w K mg) : Meth K (gA K "Mesh") "now" (mA K "Mesh" "now") := T.meth 80
theorem Tm_Mesh_look_names (T : Txt w K mg) : Meth K (gA K "Mesh") "look_names" (mA K "Mesh" "look_names") := T.meth 81
theorem Tm_Mesh_look_moment (T : Txt w K mg) : Meth K (gA K "Mesh") "look_moment" (mA K "Mesh" "look_moment") := T.meth 82
theorem Tm_Mesh_join (T : Txt w K mg) : Meth K (gA K "Mesh") "join" (mA K "Mesh" "join") := T.meth 83
theorem Tm_Mesh_take (T : Txt w K mg) : Meth K (gA K "Mesh") "take" (mA K "Mesh" "take") := T.meth 84
theorem Tm_Mesh_put_name (T : Txt w K mg) : Meth K (gA K "Mesh") "put_name" (mA K "Mesh" "put_name") := T.meth 85
theorem Tm_Mesh_drop_name (T : Txt w K mg) : Meth K (gA K "Mesh") "drop_name" (mA K "Mesh" "drop_name") := T.meth 86
theorem Tm_Mesh_names_now (T : Txt w K mg) : Meth K (gA K "Mesh") "names_now" (mA K "Mesh" "names_now") := T.meth 87
theorem Tm_Mesh_standing (T : Txt w K mg) : Meth K (gA K "Mesh") "standing" (mA K "Mesh" "standing") := T.meth 88
theorem Tm_Mesh_holding (T : Txt w K mg) : Meth K (gA K "Mesh") "holding" (mA K "Mesh" "holding") := T.meth 89
theorem Tm_Mesh_way (T : Txt w K mg) : Meth K (gA K "Mesh") "way" (mA K "Mesh" "way") := T.meth 90
theorem Tm_Mesh_steps (T : Txt w K mg) : Meth K (gA K "Mesh") "steps" (mA K "Mesh" "steps") := T.meth 91
theorem Tm_Mesh_class_of (T : Txt w K mg) : Meth K (gA K "Mesh") "class_of" (mA K "Mesh" "class_of") := T.meth 92
theorem Tm_Mesh_moment (T : Txt w K mg) : Meth K (gA K "Mesh") "moment" (mA K "Mesh" "moment") := T.meth 93
theorem Tm_Mesh_at (T : Txt w K mg) : Meth K (gA K "Mesh") "at" (mA K "Mesh" "at") := T.meth 94
theorem Tm_Mesh_times_together (T : Txt w K mg) : Meth K (gA K "Mesh") "times_together" (mA K "Mesh" "times_together") := T.meth 95
theorem Tc_Desk (T : Txt w K mg) : Cls K (gA K "Desk") := T.cls 96
theorem Tk_Desk (T : Txt w K mg) : Mk K (gA K "Desk") (mA K "Desk" "__init__") := T.mkr 97
theorem Tn_Desk_mesh (T : Txt w K mg) : NoAttr K (gA K "Desk") "mesh" := T.noat 98
theorem Tn_Desk_places (T : Txt w K mg) : NoAttr K (gA K "Desk") "places" := T.noat 99
theorem Tn_Desk_weights (T : Txt w K mg) : NoAttr K (gA K "Desk") "weights" := T.noat 100
theorem Tm_Desk_named (T : Txt w K mg) : Meth K (gA K "Desk") "named" (mA K "Desk" "named") := T.meth 101
theorem Tm_Desk_joined (T : Txt w K mg) : Meth K (gA K "Desk") "joined" (mA K "Desk" "joined") := T.meth 102
theorem Tm_Desk_of_two (T : Txt w K mg) : Meth K (gA K "Desk") "of_two" (mA K "Desk" "of_two") := T.meth 103
theorem Tm_Desk_done (T : Txt w K mg) : Meth K (gA K "Desk") "done" (mA K "Desk" "done") := T.meth 104
theorem Tm_Desk_answer (T : Txt w K mg) : Meth K (gA K "Desk") "answer" (mA K "Desk" "answer") := T.meth 105
theorem Tc_Stack (T : Txt w K mg) : Cls K (gA K "Stack") := T.cls 106
theorem Tk_Stack (T : Txt w K mg) : Mk K (gA K "Stack") (mA K "Stack" "__init__") := T.mkr 107
theorem Tn_Stack_order (T : Txt w K mg) : NoAttr K (gA K "Stack") "order" := T.noat 108
theorem Tn_Stack_places (T : Txt w K mg) : NoAttr K (gA K "Stack") "places" := T.noat 109
theorem Tn_Stack_turn (T : Txt w K mg) : NoAttr K (gA K "Stack") "turn" := T.noat 110
theorem Tn_Stack_above (T : Txt w K mg) : NoAttr K (gA K "Stack") "above" := T.noat 111
theorem Tn_Stack_rise (T : Txt w K mg) : NoAttr K (gA K "Stack") "rise" := T.noat 112
theorem Tn_Stack_sizes (T : Txt w K mg) : NoAttr K (gA K "Stack") "sizes" := T.noat 113
theorem Tn_Stack_weights (T : Txt w K mg) : NoAttr K (gA K "Stack") "weights" := T.noat 114
theorem Tn_Stack_done_deeds (T : Txt w K mg) : NoAttr K (gA K "Stack") "done_deeds" := T.noat 115
theorem Tn_Stack_looked (T : Txt w K mg) : NoAttr K (gA K "Stack") "looked" := T.noat 116
theorem Tm_Stack_look_names_there (T : Txt w K mg) : Meth K (gA K "Stack") "look_names_there" (mA K "Stack" "look_names_there") := T.meth 117
theorem Tm_Stack_up_from (T : Txt w K mg) : Meth K (gA K "Stack") "up_from" (mA K "Stack" "up_from") := T.meth 118
theorem Tm_Stack_both_up (T : Txt w K mg) : Meth K (gA K "Stack") "both_up" (mA K "Stack" "both_up") := T.meth 119
theorem Tm_Stack_put_under (T : Txt w K mg) : Meth K (gA K "Stack") "put_under" (mA K "Stack" "put_under") := T.meth 120
theorem Tm_Stack_join (T : Txt w K mg) : Meth K (gA K "Stack") "join" (mA K "Stack" "join") := T.meth 121
theorem Tm_Stack_weigh (T : Txt w K mg) : Meth K (gA K "Stack") "weigh" (mA K "Stack" "weigh") := T.meth 122
theorem Tm_Stack_back (T : Txt w K mg) : Meth K (gA K "Stack") "back" (mA K "Stack" "back") := T.meth 123
theorem Tm_Stack_deeds (T : Txt w K mg) : Meth K (gA K "Stack") "deeds" (mA K "Stack" "deeds") := T.meth 124
theorem Tm_Stack_standing (T : Txt w K mg) : Meth K (gA K "Stack") "standing" (mA K "Stack" "standing") := T.meth 125
theorem Tm_Stack_head_of (T : Txt w K mg) : Meth K (gA K "Stack") "head_of" (mA K "Stack" "head_of") := T.meth 126
theorem Tm_Stack_class_of (T : Txt w K mg) : Meth K (gA K "Stack") "class_of" (mA K "Stack" "class_of") := T.meth 127
theorem Tm_Stack_sum_of (T : Txt w K mg) : Meth K (gA K "Stack") "sum_of" (mA K "Stack" "sum_of") := T.meth 128
theorem Td_is_name (T : Txt w K mg) : ∃ fd, FunD K "is_name" "is_name" (defArgs s_is_name) (defBody s_is_name) (defScope s_is_name) [] [] (gA K "is_name") fd := T.s.d.def_ 0 (d := d_is_name) rfl
theorem Td_look_names (T : Txt w K mg) : ∃ fd, FunD K "look_names" "look_names" (defArgs s_look_names) (defBody s_look_names) (defScope s_look_names) [] [] (gA K "look_names_naming") fd := T.s.d.def_ 1 (d := d_look_names) rfl
theorem Td_counted (T : Txt w K mg) : ∃ fd, FunD K "counted" "counted" (defArgs s_counted) (defBody s_counted) (defScope s_counted) [] [] (gA K "counted") fd := T.s.d.def_ 2 (d := d_counted) rfl
theorem Td_walked (T : Txt w K mg) : ∃ fd, FunD K "walked" "walked" (defArgs s_walked) (defBody s_walked) (defScope s_walked) [] [] (gA K "walked") fd := T.s.d.def_ 3 (d := d_walked) rfl
theorem Td_number_by (T : Txt w K mg) : ∃ fd, FunD K "number_by" "number_by" (defArgs s_number_by) (defBody s_number_by) (defScope s_number_by) [] [] (gA K "number_by") fd := T.s.d.def_ 4 (d := d_number_by) rfl
theorem Td_part_by (T : Txt w K mg) : ∃ fd, FunD K "part_by" "part_by" (defArgs s_part_by) (defBody s_part_by) (defScope s_part_by) [] [] (gA K "part_by") fd := T.s.d.def_ 5 (d := d_part_by) rfl
theorem Td_parts_by (T : Txt w K mg) : ∃ fd, FunD K "parts_by" "parts_by" (defArgs s_parts_by) (defBody s_parts_by) (defScope s_parts_by) [] [] (gA K "parts_by") fd := T.s.d.def_ 6 (d := d_parts_by) rfl
theorem Td_order_by (T : Txt w K mg) : ∃ fd, FunD K "order_by" "order_by" (defArgs s_order_by) (defBody s_order_by) (defScope s_order_by) [] [] (gA K "order_by") fd := T.s.d.def_ 7 (d := d_order_by) rfl
theorem Td_orders_in (T : Txt w K mg) : ∃ fd, FunD K "orders_in" "orders_in" (defArgs s_orders_in) (defBody s_orders_in) (defScope s_orders_in) [] [] (gA K "orders_in") fd := T.s.d.def_ 8 (d := d_orders_in) rfl
theorem Td_shown_list (T : Txt w K mg) : ∃ fd, FunD K "shown_list" "shown_list" (defArgs s_shown_list) (defBody s_shown_list) (defScope s_shown_list) [] [] (gA K "shown_list") fd := T.s.d.def_ 9 (d := d_shown_list) rfl
theorem Td_shown_way (T : Txt w K mg) : ∃ fd, FunD K "shown_way" "shown_way" (defArgs s_shown_way) (defBody s_shown_way) (defScope s_shown_way) [] [] (gA K "shown_way") fd := T.s.d.def_ 10 (d := d_shown_way) rfl
theorem Td_shown_or_no (T : Txt w K mg) : ∃ fd, FunD K "shown_or_no" "shown_or_no" (defArgs s_shown_or_no) (defBody s_shown_or_no) (defScope s_shown_or_no) [] [] (gA K "shown_or_no") fd := T.s.d.def_ 11 (d := d_shown_or_no) rfl
theorem Td_run (T : Txt w K mg) : ∃ fd, FunD K "run" "run" (defArgs s_run) (defBody s_run) (defScope s_run) [] [] (gA K "run") fd := T.s.d.def_ 12 (d := d_run) rfl
theorem Td_law_tape (T : Txt w K mg) : ∃ fd, FunD K "_law_tape" "_law_tape" (defArgs s_law_tape) (defBody s_law_tape) (defScope s_law_tape) [] [] (gA K "_law_tape") fd := T.s.d.def_ 13 (d := d_law_tape) rfl
theorem Td_law_draw (T : Txt w K mg) : ∃ fd, FunD K "_law_draw" "_law_draw" (defArgs s_law_draw) (defBody s_law_draw) (defScope s_law_draw) [] [] (gA K "_law_draw") fd := T.s.d.def_ 14 (d := d_law_draw) rfl
theorem Td_law_names (T : Txt w K mg) : ∃ fd, FunD K "_law_names" "_law_names" (defArgs s_law_names) (defBody s_law_names) (defScope s_law_names) [] [] (gA K "_law_names") fd := T.s.d.def_ 15 (d := d_law_names) rfl
theorem Td_law_right_step (T : Txt w K mg) : ∃ fd, FunD K "_law_right_step" "_law_right_step" (defArgs s_law_right_step) (defBody s_law_right_step) (defScope s_law_right_step) [] [] (gA K "_law_right_step") fd := T.s.d.def_ 16 (d := d_law_right_step) rfl
theorem Td_law_labels (T : Txt w K mg) : ∃ fd, FunD K "_law_labels" "_law_labels" (defArgs s_law_labels) (defBody s_law_labels) (defScope s_law_labels) [] [] (gA K "_law_labels") fd := T.s.d.def_ 17 (d := d_law_labels) rfl
theorem Td_law_stack_right (T : Txt w K mg) : ∃ fd, FunD K "_law_stack_right" "_law_stack_right" (defArgs s_law_stack_right) (defBody s_law_stack_right) (defScope s_law_stack_right) [] [] (gA K "_law_stack_right") fd := T.s.d.def_ 18 (d := d_law_stack_right) rfl
theorem Td_law_back_right (T : Txt w K mg) : ∃ fd, FunD K "_law_back_right" "_law_back_right" (defArgs s_law_back_right) (defBody s_law_back_right) (defScope s_law_back_right) [] [] (gA K "_law_back_right") fd := T.s.d.def_ 19 (d := d_law_back_right) rfl
theorem Td_law_holding (T : Txt w K mg) : ∃ fd, FunD K "_law_holding" "_law_holding" (defArgs s_law_holding) (defBody s_law_holding) (defScope s_law_holding) [] [] (gA K "_law_holding") fd := T.s.d.def_ 20 (d := d_law_holding) rfl
theorem Td_law_moment_right (T : Txt w K mg) : ∃ fd, FunD K "_law_moment_right" "_law_moment_right" (defArgs s_law_moment_right) (defBody s_law_moment_right) (defScope s_law_moment_right) [] [] (gA K "_law_moment_right") fd := T.s.d.def_ 21 (d := d_law_moment_right) rfl
theorem Td_law_times (T : Txt w K mg) : ∃ fd, FunD K "_law_times" "_law_times" (defArgs s_law_times) (defBody s_law_times) (defScope s_law_times) [] [] (gA K "_law_times") fd := T.s.d.def_ 22 (d := d_law_times) rfl
theorem Td_law_mesh_right (T : Txt w K mg) : ∃ fd, FunD K "_law_mesh_right" "_law_mesh_right" (defArgs s_law_mesh_right) (defBody s_law_mesh_right) (defScope s_law_mesh_right) [] [] (gA K "_law_mesh_right") fd := T.s.d.def_ 23 (d := d_law_mesh_right) rfl
theorem Td_law_chain_way (T : Txt w K mg) : ∃ fd, FunD K "_law_chain_way" "_law_chain_way" (defArgs s_law_chain_way) (defBody s_law_chain_way) (defScope s_law_chain_way) [] [] (gA K "_law_chain_way") fd := T.s.d.def_ 24 (d := d_law_chain_way) rfl
theorem Td_law_chain_right (T : Txt w K mg) : ∃ fd, FunD K "_law_chain_right" "_law_chain_right" (defArgs s_law_chain_right) (defBody s_law_chain_right) (defScope s_law_chain_right) [] [] (gA K "_law_chain_right") fd := T.s.d.def_ 25 (d := d_law_chain_right) rfl
theorem Td_law_taken_right (T : Txt w K mg) : ∃ fd, FunD K "_law_taken_right" "_law_taken_right" (defArgs s_law_taken_right) (defBody s_law_taken_right) (defScope s_law_taken_right) [] [] (gA K "_law_taken_right") fd := T.s.d.def_ 26 (d := d_law_taken_right) rfl
theorem Td_law (T : Txt w K mg) : ∃ fd, FunD K "law" "law" (defArgs s_law) (defBody s_law) (defScope s_law) [] [] (gA K "law") fd := T.s.d.def_ 27 (d := d_law) rfl
theorem Td_Standing_init (T : Txt w K mg) : ∃ fd, FunD K "__init__" "Standing.__init__" (defArgs s_Standing_init) (defBody s_Standing_init) (defScope s_Standing_init) [] [] (mA K "Standing" "__init__") fd := T.s.d.def_ 28 (d := d_Standing_init) rfl
theorem Td_Standing_has_name (T : Txt w K mg) : ∃ fd, FunD K "has_name" "Standing.has_name" (defArgs s_Standing_has_name) (defBody s_Standing_has_name) (defScope s_Standing_has_name) [] [] (mA K "Standing" "has_name") fd := T.s.d.def_ 29 (d := d_Standing_has_name) rfl
theorem Td_Standing_ways_from (T : Txt w K mg) : ∃ fd, FunD K "ways_from" "Standing.ways_from" (defArgs s_Standing_ways_from) (defBody s_Standing_ways_from) (defScope s_Standing_ways_from) [] [] (mA K "Standing" "ways_from") fd := T.s.d.def_ 30 (d := d_Standing_ways_from) rfl
theorem Td_Standing_steps_on (T : Txt w K mg) : ∃ fd, FunD K "steps_on" "Standing.steps_on" (defArgs s_Standing_steps_on) (defBody s_Standing_steps_on) (defScope s_Standing_steps_on) [] [] (mA K "Standing" "steps_on") fd := T.s.d.def_ 31 (d := d_Standing_steps_on) rfl
theorem Td_Standing_class_with (T : Txt w K mg) : ∃ fd, FunD K "class_with" "Standing.class_with" (defArgs s_Standing_class_with) (defBody s_Standing_class_with) (defScope s_Standing_class_with) [] [] (mA K "Standing" "class_with") fd := T.s.d.def_ 32 (d := d_Standing_class_with) rfl
theorem Td_Standing_rows_told (T : Txt w K mg) : ∃ fd, FunD K "rows_told" "Standing.rows_told" (defArgs s_Standing_rows_told) (defBody s_Standing_rows_told) (defScope s_Standing_rows_told) [] [] (mA K "Standing" "rows_told") fd := T.s.d.def_ 33 (d := d_Standing_rows_told) rfl
theorem Td_Standing_with_name (T : Txt w K mg) : ∃ fd, FunD K "with_name" "Standing.with_name" (defArgs s_Standing_with_name) (defBody s_Standing_with_name) (defScope s_Standing_with_name) [] [] (mA K "Standing" "with_name") fd := T.s.d.def_ 34 (d := d_Standing_with_name) rfl
theorem Td_Standing_with_joining (T : Txt w K mg) : ∃ fd, FunD K "with_joining" "Standing.with_joining" (defArgs s_Standing_with_joining) (defBody s_Standing_with_joining) (defScope s_Standing_with_joining) [] [] (mA K "Standing" "with_joining") fd := T.s.d.def_ 35 (d := d_Standing_with_joining) rfl
theorem Td_Standing_crossing (T : Txt w K mg) : ∃ fd, FunD K "crossing" "Standing.crossing" (defArgs s_Standing_crossing) (defBody s_Standing_crossing) (defScope s_Standing_crossing) [] [] (mA K "Standing" "crossing") fd := T.s.d.def_ 36 (d := d_Standing_crossing) rfl
theorem Td_Standing_without_joining (T : Txt w K mg) : ∃ fd, FunD K "without_joining" "Standing.without_joining" (defArgs s_Standing_without_joining) (defBody s_Standing_without_joining) (defScope s_Standing_without_joining) [] [] (mA K "Standing" "without_joining") fd := T.s.d.def_ 37 (d := d_Standing_without_joining) rfl
theorem Td_Standing_numbers_at (T : Txt w K mg) : ∃ fd, FunD K "numbers_at" "Standing.numbers_at" (defArgs s_Standing_numbers_at) (defBody s_Standing_numbers_at) (defScope s_Standing_numbers_at) [] [] (mA K "Standing" "numbers_at") fd := T.s.d.def_ 38 (d := d_Standing_numbers_at) rfl
theorem Td_Standing_without_name (T : Txt w K mg) : ∃ fd, FunD K "without_name" "Standing.without_name" (defArgs s_Standing_without_name) (defBody s_Standing_without_name) (defScope s_Standing_without_name) [] [] (mA K "Standing" "without_name") fd := T.s.d.def_ 39 (d := d_Standing_without_name) rfl
theorem Td_Mesh_init (T : Txt w K mg) : ∃ fd, FunD K "__init__" "Mesh.__init__" (defArgs s_Mesh_init) (defBody s_Mesh_init) (defScope s_Mesh_init) [] [] (mA K "Mesh" "__init__") fd := T.s.d.def_ 40 (d := d_Mesh_init) rfl
theorem Td_Mesh_now (T : Txt w K mg) : ∃ fd, FunD K "now" "Mesh.now" (defArgs s_Mesh_now) (defBody s_Mesh_now) (defScope s_Mesh_now) [] [] (mA K "Mesh" "now") fd := T.s.d.def_ 41 (d := d_Mesh_now) rfl
theorem Td_Mesh_look_names (T : Txt w K mg) : ∃ fd, FunD K "look_names" "Mesh.look_names" (defArgs s_Mesh_look_names) (defBody s_Mesh_look_names) (defScope s_Mesh_look_names) [] [] (mA K "Mesh" "look_names") fd := T.s.d.def_ 42 (d := d_Mesh_look_names) rfl
theorem Td_Mesh_look_moment (T : Txt w K mg) : ∃ fd, FunD K "look_moment" "Mesh.look_moment" (defArgs s_Mesh_look_moment) (defBody s_Mesh_look_moment) (defScope s_Mesh_look_moment) [] [] (mA K "Mesh" "look_moment") fd := T.s.d.def_ 43 (d := d_Mesh_look_moment) rfl
theorem Td_Mesh_join (T : Txt w K mg) : ∃ fd, FunD K "join" "Mesh.join" (defArgs s_Mesh_join) (defBody s_Mesh_join) (defScope s_Mesh_join) [] [] (mA K "Mesh" "join") fd := T.s.d.def_ 44 (d := d_Mesh_join) rfl
theorem Td_Mesh_take (T : Txt w K mg) : ∃ fd, FunD K "take" "Mesh.take" (defArgs s_Mesh_take) (defBody s_Mesh_take) (defScope s_Mesh_take) [] [] (mA K "Mesh" "take") fd := T.s.d.def_ 45 (d := d_Mesh_take) rfl
theorem Td_Mesh_put_name (T : Txt w K mg) : ∃ fd, FunD K "put_name" "Mesh.put_name" (defArgs s_Mesh_put_name) (defBody s_Mesh_put_name) (defScope s_Mesh_put_name) [] [] (mA K "Mesh" "put_name") fd := T.s.d.def_ 46 (d := d_Mesh_put_name) rfl
theorem Td_Mesh_drop_name (T : Txt w K mg) : ∃ fd, FunD K "drop_name" "Mesh.drop_name" (defArgs s_Mesh_drop_name) (defBody s_Mesh_drop_name) (defScope s_Mesh_drop_name) [] [] (mA K "Mesh" "drop_name") fd := T.s.d.def_ 47 (d := d_Mesh_drop_name) rfl
theorem Td_Mesh_names_now (T : Txt w K mg) : ∃ fd, FunD K "names_now" "Mesh.names_now" (defArgs s_Mesh_names_now) (defBody s_Mesh_names_now) (defScope s_Mesh_names_now) [] [] (mA K "Mesh" "names_now") fd := T.s.d.def_ 48 (d := d_Mesh_names_now) rfl
theorem Td_Mesh_standing (T : Txt w K mg) : ∃ fd, FunD K "standing" "Mesh.standing" (defArgs s_Mesh_standing) (defBody s_Mesh_standing) (defScope s_Mesh_standing) [] [] (mA K "Mesh" "standing") fd := T.s.d.def_ 49 (d := d_Mesh_standing) rfl
theorem Td_Mesh_holding (T : Txt w K mg) : ∃ fd, FunD K "holding" "Mesh.holding" (defArgs s_Mesh_holding) (defBody s_Mesh_holding) (defScope s_Mesh_holding) [] [] (mA K "Mesh" "holding") fd := T.s.d.def_ 50 (d := d_Mesh_holding) rfl
theorem Td_Mesh_way (T : Txt w K mg) : ∃ fd, FunD K "way" "Mesh.way" (defArgs s_Mesh_way) (defBody s_Mesh_way) (defScope s_Mesh_way) [] [] (mA K "Mesh" "way") fd := T.s.d.def_ 51 (d := d_Mesh_way) rfl
theorem Td_Mesh_steps (T : Txt w K mg) : ∃ fd, FunD K "steps" "Mesh.steps" (defArgs s_Mesh_steps) (defBody s_Mesh_steps) (defScope s_Mesh_steps) [] [] (mA K "Mesh" "steps") fd := T.s.d.def_ 52 (d := d_Mesh_steps) rfl
theorem Td_Mesh_class_of (T : Txt w K mg) : ∃ fd, FunD K "class_of" "Mesh.class_of" (defArgs s_Mesh_class_of) (defBody s_Mesh_class_of) (defScope s_Mesh_class_of) [] [] (mA K "Mesh" "class_of") fd := T.s.d.def_ 53 (d := d_Mesh_class_of) rfl
theorem Td_Mesh_moment (T : Txt w K mg) : ∃ fd, FunD K "moment" "Mesh.moment" (defArgs s_Mesh_moment) (defBody s_Mesh_moment) (defScope s_Mesh_moment) [] [] (mA K "Mesh" "moment") fd := T.s.d.def_ 54 (d := d_Mesh_moment) rfl
theorem Td_Mesh_at (T : Txt w K mg) : ∃ fd, FunD K "at" "Mesh.at" (defArgs s_Mesh_at) (defBody s_Mesh_at) (defScope s_Mesh_at) [] [] (mA K "Mesh" "at") fd := T.s.d.def_ 55 (d := d_Mesh_at) rfl
theorem Td_Mesh_times_together (T : Txt w K mg) : ∃ fd, FunD K "times_together" "Mesh.times_together" (defArgs s_Mesh_times_together) (defBody s_Mesh_times_together) (defScope s_Mesh_times_together) [] [] (mA K "Mesh" "times_together") fd := T.s.d.def_ 56 (d := d_Mesh_times_together) rfl
theorem Td_Desk_init (T : Txt w K mg) : ∃ fd, FunD K "__init__" "Desk.__init__" (defArgs s_Desk_init) (defBody s_Desk_init) (defScope s_Desk_init) [] [] (mA K "Desk" "__init__") fd := T.s.d.def_ 57 (d := d_Desk_init) rfl
theorem Td_Desk_named (T : Txt w K mg) : ∃ fd, FunD K "named" "Desk.named" (defArgs s_Desk_named) (defBody s_Desk_named) (defScope s_Desk_named) [] [] (mA K "Desk" "named") fd := T.s.d.def_ 58 (d := d_Desk_named) rfl
theorem Td_Desk_joined (T : Txt w K mg) : ∃ fd, FunD K "joined" "Desk.joined" (defArgs s_Desk_joined) (defBody s_Desk_joined) (defScope s_Desk_joined) [] [] (mA K "Desk" "joined") fd := T.s.d.def_ 59 (d := d_Desk_joined) rfl
theorem Td_Desk_of_two (T : Txt w K mg) : ∃ fd, FunD K "of_two" "Desk.of_two" (defArgs s_Desk_of_two) (defBody s_Desk_of_two) (defScope s_Desk_of_two) [] [] (mA K "Desk" "of_two") fd := T.s.d.def_ 60 (d := d_Desk_of_two) rfl
theorem Td_Desk_done (T : Txt w K mg) : ∃ fd, FunD K "done" "Desk.done" (defArgs s_Desk_done) (defBody s_Desk_done) (defScope s_Desk_done) [] [] (mA K "Desk" "done") fd := T.s.d.def_ 61 (d := d_Desk_done) rfl
theorem Td_Desk_answer (T : Txt w K mg) : ∃ fd, FunD K "answer" "Desk.answer" (defArgs s_Desk_answer) (defBody s_Desk_answer) (defScope s_Desk_answer) [] [] (mA K "Desk" "answer") fd := T.s.d.def_ 62 (d := d_Desk_answer) rfl
theorem Td_Stack_init (T : Txt w K mg) : ∃ fd, FunD K "__init__" "Stack.__init__" (defArgs s_Stack_init) (defBody s_Stack_init) (defScope s_Stack_init) [] [] (mA K "Stack" "__init__") fd := T.s.d.def_ 63 (d := d_Stack_init) rfl
theorem Td_Stack_look_names_there (T : Txt w K mg) : ∃ fd, FunD K "look_names_there" "Stack.look_names_there" (defArgs s_Stack_look_names_there) (defBody s_Stack_look_names_there) (defScope s_Stack_look_names_there) [] [] (mA K "Stack" "look_names_there") fd := T.s.d.def_ 64 (d := d_Stack_look_names_there) rfl
theorem Td_Stack_up_from (T : Txt w K mg) : ∃ fd, FunD K "up_from" "Stack.up_from" (defArgs s_Stack_up_from) (defBody s_Stack_up_from) (defScope s_Stack_up_from) [] [] (mA K "Stack" "up_from") fd := T.s.d.def_ 65 (d := d_Stack_up_from) rfl
theorem Td_Stack_both_up (T : Txt w K mg) : ∃ fd, FunD K "both_up" "Stack.both_up" (defArgs s_Stack_both_up) (defBody s_Stack_both_up) (defScope s_Stack_both_up) [] [] (mA K "Stack" "both_up") fd := T.s.d.def_ 66 (d := d_Stack_both_up) rfl
theorem Td_Stack_put_under (T : Txt w K mg) : ∃ fd, FunD K "put_under" "Stack.put_under" (defArgs s_Stack_put_under) (defBody s_Stack_put_under) (defScope s_Stack_put_under) [] [] (mA K "Stack" "put_under") fd := T.s.d.def_ 67 (d := d_Stack_put_under) rfl
theorem Td_Stack_join (T : Txt w K mg) : ∃ fd, FunD K "join" "Stack.join" (defArgs s_Stack_join) (defBody s_Stack_join) (defScope s_Stack_join) [] [] (mA K "Stack" "join") fd := T.s.d.def_ 68 (d := d_Stack_join) rfl
theorem Td_Stack_weigh (T : Txt w K mg) : ∃ fd, FunD K "weigh" "Stack.weigh" (defArgs s_Stack_weigh) (defBody s_Stack_weigh) (defScope s_Stack_weigh) [] [] (mA K "Stack" "weigh") fd := T.s.d.def_ 69 (d := d_Stack_weigh) rfl
theorem Td_Stack_back (T : Txt w K mg) : ∃ fd, FunD K "back" "Stack.back" (defArgs s_Stack_back) (defBody s_Stack_back) (defScope s_Stack_back) [] [] (mA K "Stack" "back") fd := T.s.d.def_ 70 (d := d_Stack_back) rfl
theorem Td_Stack_deeds (T : Txt w K mg) : ∃ fd, FunD K "deeds" "Stack.deeds" (defArgs s_Stack_deeds) (defBody s_Stack_deeds) (defScope s_Stack_deeds) [] [] (mA K "Stack" "deeds") fd := T.s.d.def_ 71 (d := d_Stack_deeds) rfl
theorem Td_Stack_standing (T : Txt w K mg) : ∃ fd, FunD K "standing" "Stack.standing" (defArgs s_Stack_standing) (defBody s_Stack_standing) (defScope s_Stack_standing) [] [] (mA K "Stack" "standing") fd := T.s.d.def_ 72 (d := d_Stack_standing) rfl
theorem Td_Stack_head_of (T : Txt w K mg) : ∃ fd, FunD K "head_of" "Stack.head_of" (defArgs s_Stack_head_of) (defBody s_Stack_head_of) (defScope s_Stack_head_of) [] [] (mA K "Stack" "head_of") fd := T.s.d.def_ 73 (d := d_Stack_head_of) rfl
theorem Td_Stack_class_of (T : Txt w K mg) : ∃ fd, FunD K "class_of" "Stack.class_of" (defArgs s_Stack_class_of) (defBody s_Stack_class_of) (defScope s_Stack_class_of) [] [] (mA K "Stack" "class_of") fd := T.s.d.def_ 74 (d := d_Stack_class_of) rfl
theorem Td_Stack_sum_of (T : Txt w K mg) : ∃ fd, FunD K "sum_of" "Stack.sum_of" (defArgs s_Stack_sum_of) (defBody s_Stack_sum_of) (defScope s_Stack_sum_of) [] [] (mA K "Stack" "sum_of") fd := T.s.d.def_ 75 (d := d_Stack_sum_of) rfl
end
/-- a def keeps a promise; how it is called -/
def OkF (P : Program) (w : World) (K : PySem.W.Frag) (mg : Str → Option Value) (base : Heap) (k : Nat) (f : Addr) (ps : List Str) (sp : Sp) : Prop :=
  ∃ fd, FnOk P w K mg base CX0 k f fd ps sp ∧ Binds K fd ps [] ∧ PySem.W.keepIn K (.ref f) = true
theorem okF {P : Program} {w : World} {K : PySem.W.Frag} {mg : Str → Option Value} {base : Heap} {k : Nat} {f : Addr} {ps N : List Str} {sp : Sp} {x qual : Str} {params : Arguments} {body : List Stmt} {scope : Scope}
    (h : ∃ fd, FunD K x qual params body scope [] [] f fd) (S : FnScope N ps scope)
    (b : ∀ (kV doc pm : Value) (an : Option Addr) (cdv ct : Value) (us : List Value), us.length = ps.length → bindArgs (PySem.W.fnOf x qual params body scope .none kV doc pm an cdv ct) ⟨us, []⟩ = pure (ps.zip us))
    (len : ∀ vs H Q E, sp vs H Q E → vs.length = ps.length)
    (hbody : ∀ (cdv : Value) (A : Around) (outer : List Env) (s : Shared) (H : Hp) (vs : List V) (Q : VK) (E : XK), Room k (A.deeper (PyProof.Rows.envOfC qual scope s.heap.objs.size f cdv)) → sp vs H Q E →
      ∃ t, PSs (cxOf CX0 P w K mg base N qual scope f cdv A outer s H E).nox body t ∧ t { nx := fun _ H' => Q .non H', rt := Q } (start N vs) H) : OkF P w K mg base (k + 1) f ps sp := by
  obtain ⟨fd, F⟩ := h
  refine ⟨fd, F.ok S len fun cdv A outer s H vs Q E hr hs => ?_, F.bindsN b, F.kp⟩
  obtain ⟨t, p, q⟩ := hbody cdv A outer s H vs Q E hr hs
  exact ⟨t, p.nox, q⟩
end JB
end
section
namespace JB
open PySem L2
theorem run_f (w : World) : HandSHeadRun.RunEq R (PySem.W.view R.prog [67]) hk ob 6000 loose (w.withFollow "special-get-raises" false) := by
  intro os
  kernel_rfl
theorem run_t (w : World) : HandSHeadRun.RunEq R (PySem.W.view R.prog [67]) hk ob 6000 loose (w.withFollow "special-get-raises" true) := by
  intro os
  kernel_rfl
theorem run (w : World) : HandSHeadRun.RunEq R (PySem.W.view R.prog [67]) hk ob 6000 loose w :=
  PySem.W.byRow2 "special-get-raises" (P := fun w => HandSHeadRun.RunEq R (PySem.W.view R.prog [67]) hk ob 6000 loose w) run_f run_t w
end JB
end
set_option tactic.hygienic false
namespace JB
open PySem L2 JM
/-! ### tactics: a fact of the heap, two places apart, a reading -/
local macro_rules | `(tactic| walk_at "jne") => `(tactic| first
  | assumption
  | exact Ne.symm (by assumption)
  | exact ne_of_none (by assumption) (by assumption)
  | exact (ne_of_none (by assumption) (by assumption)).symm
  | exact ne_of (by assumption) (by assumption) (by intro z; cases z))
local macro_rules | `(tactic| walk_at "jhp") => `(tactic| first
  | assumption
  | exact upd_same
  | (refine' hp_same ?e ?h; (case e => assumption); (case h => walk_at "jhp"))
  | (refine' hp_frk ?e ?h ?hm ?d; (case e => assumption); (case h => walk_at "jhp"); (case hm => walk_at "jhp"); (case d => (intro z; cases z)))
  | (refine' hp_fr ?e ?h ?n; (case e => assumption); (case h => walk_at "jhp"); (case n => walk_at "jne"))
  | (refine' hp_frM ?e ?h ?n; (case e => assumption); (case h => walk_at "jhp"); (case n => assumption))
  | (refine' hp_upd ?h ?n; (case h => walk_at "jhp"); (case n => walk_at "jne")))
local macro_rules | `(tactic| walk_at "jlk") => `(tactic| repeat (first | exact putF_get_same | (refine (putF_get_ne (by decide +kernel)).trans ?_)))
local macro_rules | `(tactic| walk_at "jnm") => `(tactic| repeat (first | exact NoM.nil | assumption | (refine NoM.put ?_ (by decide +kernel))))
local macro_rules | `(tactic| walk_at "jfr") => `(tactic| first
  | exact Fr1.refl _ _
  | (refine' Fr1.trans ?a ?b; (case b => assumption); (case a => walk_at "jfr"))
  | (refine' Fr1.upx ?a ?b; (case b => assumption); (case a => walk_at "jfr")))
local macro_rules | `(tactic| walk_at "jsm") => `(tactic| first
  | assumption
  | exact Same.refl _
  | (refine' same_tr ?a ?b; (case b => assumption); (case a => walk_at "jsm"))
  | (refine' Same.mut ?a ?n ?b; (case b => assumption); (case a => walk_at "jsm"); (case n => first | assumption | (refine' Same.none ?e ?h; (case h => assumption); (case e => walk_at "jsm")))))
local macro_rules | `(tactic| walk_at "jrd1") => `(tactic| with_reducible first
  | refine w_seq ?_ | refine w_asg ?_ | refine w_var rfl ?_ | refine w_c ?_ | refine w_gname ?_ | refine w_op ?_ | refine w_un ?_ | refine w_cons ?_ | refine w_nil ?_
  | refine w_ret ?_ | refine w_retN ?_ | refine w_drop ?_ | refine w_ifS ?_ | refine w_if ?_ | refine w_test ?_ | refine w_B ?_ | refine w_bool ?_ | refine w_next ?_
  | refine w_and ?_ | refine w_or ?_ | refine w_not ?_ | refine w_andV ?_ | refine r_andV ?_ | refine w_isN ?_ | refine w_notN ?_
  | refine r_I0 ?_ | refine r_U ?_ | refine r_eqI ?_ | refine r_neI ?_ | refine r_eqS ?_ | refine r_neS ?_ | refine r_neB ?_
  | refine w_fld ?_ | refine w_sfld ?_ | refine w_tup ?_ | refine w_lst ?_ | refine w_call ?_ | refine w_meth ?_ | refine w_make ?_ | refine w_cb ?_ | refine w_bm ?_ | refine w_bm0 ?_
  | refine w_dget ?_ | refine w_din ?_ | refine w_dnotin ?_ | refine w_dput ?_ | refine w_gtup ?_ | refine w_gcons ?_ | refine w_gnil ?_ | refine w_for ?_ | refine w_iList ?_ | refine w_iTup ?_
  | refine w_aug rfl ?_ | refine r_ip ?_ | refine r_add ?_ | refine r_sub ?_ | refine w_daug ?_ | refine w_sl ?_ | refine w_noPart ?_ | refine w_part ?_ | refine r_part ?_ | refine w_lc ?_ | refine w_tyes ?_
  | refine w_m1 ?_ | refine j_m1 ?_ | refine w_get1 ?_ | refine w_pop1 ?_ | refine w_par ?_ | refine j_abs ?_ | refine j_max ?_ | refine j_min ?_ | refine j_int1b ?_ | refine w_chain ?_ | refine w_gsub ?_ | refine r_chain ?_ | refine w_iStr ?_ | refine r_iterS ?_ | refine w_iEnum ?_ | refine w_iRng1 ?_ | refine w_iRng2 ?_ | refine j_isStr ?_ | refine j_inSign ?_ | refine j_starts ?_)
local macro_rules | `(tactic| walk_at "jrd2") => `(tactic| first
  | (with_reducible refine' r_fld ?h ?c ?n ?l ?k); (case h => walk_at "jhp"); (case c => assumption); (case n => assumption); (case l => first | assumption | ((walk_at "jlk"); done))
  | (with_reducible refine' r_tup ?h ?k); (case h => first | (refine sz _ ?_; simp; done) | (refine sz _ ?_; simp; omega) | (refine sz _ ?_; omega)); (intros)
  | (with_reducible refine' r_lst ?h ?k); (case h => first | (refine sz _ ?_; simp; done) | (refine sz _ ?_; simp; omega) | (refine sz _ ?_; omega)); (intros)
  | (with_reducible refine w_dnew ?_); (intros)
  | (with_reducible refine' r_meth ?h ?l ?k); (case h => walk_at "jhp"); (case l => first | assumption | exact NoM.get (by assumption) (by decide +kernel))
  | (with_reducible refine' r_unp ?h ?l ?k); (case h => walk_at "jhp"); (case l => rfl)
  | (with_reducible refine' r_iterL ?h ?k); (case h => walk_at "jhp")
  | (with_reducible refine' r_iterT ?h ?k); (case h => walk_at "jhp")
  | (with_reducible refine' r_ixL ?h ?a ?k); (case h => walk_at "jhp"); (case a => first | exact atI_last _ _ | assumption | exact atI_nat (by assumption) | exact rfl)
  | (with_reducible refine' r_ixT ?h ?a ?k); (case h => walk_at "jhp"); (case a => first | exact rfl | assumption | exact atI_zero | exact atI_one)
  | (with_reducible refine' r_dgetN ?h ?n ?k); (case h => walk_at "jhp"); (case n => assumption)
  | (with_reducible refine' r_dputN ?h ?n ?z ?k); (case h => walk_at "jhp"); (case n => assumption); (case z => omega); (intros)
  | (with_reducible refine' j_listL ?h ?k); (case h => walk_at "jhp"); (intros)
  | (with_reducible refine' r_sortedS ?h ?z ?k); (case h => walk_at "jhp"); (case z => first | assumption | omega | (simp; omega)); (intros)
  | (with_reducible refine' r_sum ?h ?k); (case h => walk_at "jhp")
  | (with_reducible refine' r_sl514 ?h ?k); (case h => walk_at "jhp"); (intros)
  | (with_reducible refine' r_sl54 ?h ?k); (case h => walk_at "jhp"); (intros)
  | (with_reducible refine' r_sl43 ?h ?k); (case h => walk_at "jhp"); (intros)
  | (with_reducible refine' r_sl413 ?h ?k); (case h => walk_at "jhp"); (intros)
  | (with_reducible refine' r_sl32 ?h ?k); (case h => walk_at "jhp"); (intros)
  | (with_reducible refine' j_tupleL ?h ?k); (case h => walk_at "jhp"); (intros)
  | (with_reducible refine' j_dictD ?h ?k); (case h => walk_at "jhp"); (intros)
  | (with_reducible refine' j_sortI ?h ?k); (case h => walk_at "jhp"); (intros)
  | (with_reducible refine' j_slL ?h ?k); (case h => walk_at "jhp"); (intros)
  | (with_reducible refine' j_cat ?ha ?hb ?z ?k); (case ha => walk_at "jhp"); (case hb => walk_at "jhp"); (case z => first | (simp; done) | (simp; omega)); (intros)
  | (with_reducible refine' j_catL ?ha ?hb ?z ?k); (case ha => walk_at "jhp"); (case hb => walk_at "jhp"); (case z => first | (simp; done) | (simp; omega)); (intros)
  | (with_reducible refine' j_get1 ?h ?k); (case h => walk_at "jhp")
  | (with_reducible refine' j_gotS ?h ?k); (case h => walk_at "jhp")
  | (with_reducible refine' j_pop1 ?h ?k); (case h => walk_at "jhp")
  | (with_reducible refine j_par ?_)
  | (with_reducible refine' r_daugN ?h ?n ?k); (case h => walk_at "jhp"); (case n => assumption)
  | (with_reducible refine' r_putN ?h ?n ?z ?k); (case h => walk_at "jhp"); (case n => assumption); (case z => omega); (intros)
  | (with_reducible refine' r_iterE ?h ?k); (case h => walk_at "jhp")
  | (with_reducible refine' j_setL ?h ?e ?q); (case h => walk_at "jhp"); (case e => first | assumption | exact rfl); (intros)
  | (with_reducible refine' ty_list ?h ?k); (case h => walk_at "jhp")
  | (with_reducible refine' r_append ?h ?z ?k); (case h => walk_at "jhp"); (case z => first | (refine szlt _ ?_; simp; done) | (refine szlt _ ?_; simp; omega) | (refine szlt _ ?_; omega)); (intros)
  | (with_reducible refine' r_pop ?h ?k); (case h => walk_at "jhp"); (intros)
  | (with_reducible refine' j_lenL ?h ?k); (case h => walk_at "jhp")
  | (with_reducible refine' j_lenT ?h ?k); (case h => walk_at "jhp")
  | (with_reducible refine' r_sfld ?h ?c ?n ?l ?k); (case h => walk_at "jhp"); (case c => assumption); (case n => assumption); (case l => first | assumption | (simp; done) | omega | ((repeat (refine putF_lt ?_)); first | assumption | (simp; done))); (intros))
local macro_rules | `(tactic| walk_at "jrd") => `(tactic| repeat (first | walk_at "jrd1" | walk_at "jrd2" | dsimp only))
section
variable {P : Program} {w : World} {K : PySem.W.Frag} {mg : Str → Option Value} {base : Heap}
def sp_counted : Sp := fun vs H Q _ => ∃ t n : Int, vs = [.int t, .int n] ∧ Q (.int (cnt t n)) H
abbrev N_counted : List Str := ["turn", "n"]
theorem sc_counted : FnScope N_counted ["turn", "n"] (defScope s_counted) := ⟨rfl, rfl, rfl, by decide +kernel, rfl, by decide +kernel, by decide +kernel⟩
theorem ok_counted (T : Txt w K mg) : OkF P w K mg base 1 (gA K "counted") ["turn", "n"] sp_counted := by
  refine okF (Td_counted T) sc_counted (fun _ _ _ _ _ _ us hl => match us, hl with | [_, _], _ => rfl) (fun vs H Q E h => ?_) (fun cdv A outer s H vs Q E hr h => have hu := hu_of hr; ⟨_, (pss_cons (ps_if (pt_cmpR op_eq (pv 0) pe_int (nomark _)) (pss_one (ps_ret (pv 1))) pss_nil)
      (pss_one (ps_ret (pe_op op_modN (pv 1) (pv 0))))), ?_⟩)
  · obtain ⟨t, n, rfl, _⟩ := h
    rfl
  · obtain ⟨t, n, rfl, k⟩ := h
    walk_at "jrd"
    refine ite_of (fun e => ?_) (fun e => ?_)
    · walk_at "jrd"
      unfold cnt at k
      rw [if_pos e] at k
      exact k
    · walk_at "jrd"
      refine r_I e ?_
      unfold cnt at k
      rw [if_neg e] at k
      exact k
end
section
variable {P : Program} {w : World} {K : PySem.W.Frag} {mg : Str → Option Value} {base : Heap}
/-! ### a stack as it stands -/
structure SkA where
  dx : Addr
  ord : Addr
  ab : Addr
  ri : Addr
  si : Addr
  we : Addr
  ds : Addr
abbrev SkA.mut (a : SkA) (x : Addr) : List Addr := [x, a.ab, a.ri, a.si, a.we, a.ds]
def stackKeys : List Str := ["order", "places", "turn", "above", "rise", "sizes", "weights", "done_deeds", "looked"]
def encD : Deed Str → List V
  | .join o p s c => [.str "join", .str o, .str p, .int s, match c with | some x => .str x | none => .non]
  | .weigh n v old => [.str "weigh", .str n, .int v, .int old]
/-- the object itself -/
structure SIns (K : PySem.W.Frag) (H : Hp) (x : Addr) (turn : Int) (a : SkA) (fs : List (Str × V)) : Prop where
  h : H x = some (.ins (gA K "Stack") a.dx fs)
  len : fs.length < 1000
  nm : NoM stackKeys fs
  ord : lk fs "order" (.ref a.ord)
  turn : lk fs "turn" (.int turn)
  ab : lk fs "above" (.ref a.ab)
  ri : lk fs "rise" (.ref a.ri)
  si : lk fs "sizes" (.ref a.si)
  we : lk fs "weights" (.ref a.we)
  ds : lk fs "done_deeds" (.ref a.ds)
  lo : ∃ v, lk fs "looked" v
theorem SIns.look {K : PySem.W.Frag} {H H' : Hp} {x : Addr} {turn : Int} {a : SkA} {fs : List (Str × V)} {v : V} (I : SIns K H x turn a fs) (h : H' x = some (.ins (gA K "Stack") a.dx (putF "looked" v fs))) : SIns K H' x turn a (putF "looked" v fs) := by
  obtain ⟨u, hu⟩ := I.lo
  have g : ∀ {f : Str}, ¬ f = "looked" → (putF "looked" v fs).lookup f = fs.lookup f := fun h => putF_get_ne h
  exact ⟨h, by rw [putF_len_same hu]; exact I.len, I.nm.put (by decide +kernel), (g (by decide +kernel)).trans I.ord, (g (by decide +kernel)).trans I.turn, (g (by decide +kernel)).trans I.ab, (g (by decide +kernel)).trans I.ri, (g (by decide +kernel)).trans I.si, (g (by decide +kernel)).trans I.we, (g (by decide +kernel)).trans I.ds, ⟨v, putF_get_same⟩⟩
/-- what up_from asks: the object, who is above whom, the steps -/
structure SUp (K : PySem.W.Frag) (H : Hp) (x : Addr) (ns : List Str) (sp : Str → Int) (turn : Int) (a : SkA) (k : Sk Str) (ri : Str → Int) : Prop where
  ins : ∃ fs, SIns K H x turn a fs
  hab : H a.ab = some (.dK (dmap ns fun n => .str (k.ab n)))
  hri : H a.ri = some (.dK (dmap ns fun n => .int (ri n)))
  fo : Forest ns k
  rise : ∀ n ∈ ns, k.ab n ≠ n → (ri n - (sp n - sp (k.ab n))) % turn = 0
theorem SUp.keep {K : PySem.W.Frag} {H H' : Hp} {x : Addr} {ns : List Str} {sp : Str → Int} {turn : Int} {a : SkA} {k : Sk Str} {ri : Str → Int} (S : SUp K H x ns sp turn a k ri) (e : ∀ b o, H b = some o → b = x ∨ b = a.ab ∨ b = a.ri → H' b = some o) : SUp K H' x ns sp turn a k ri := by
  obtain ⟨fs, i⟩ := S.ins
  exact ⟨⟨fs, { i with h := e _ _ i.h (.inl rfl) }⟩, e _ _ S.hab (.inr (.inl rfl)), e _ _ S.hri (.inr (.inr rfl)), S.fo, S.rise⟩
theorem SUp.same {K : PySem.W.Frag} {H H' : Hp} {x : Addr} {ns : List Str} {sp : Str → Int} {turn : Int} {a : SkA} {k : Sk Str} {ri : Str → Int} (S : SUp K H x ns sp turn a k ri) (e : Same H H') : SUp K H' x ns sp turn a k ri := S.keep fun b o h _ => e b o h
/-- all of a stack -/
structure StackAt (K : PySem.W.Frag) (H : Hp) (x : Addr) (ns : List Str) (sp : Str → Int) (turn : Int) (a : SkA) (ds : List (Deed Str)) (k : Sk Str) : Prop where
  up : ∃ ri, SUp K H x ns sp turn a k ri
  hsi : ∃ si : Str → Int, H a.si = some (.dK (dmap ns fun n => .int (si n)))
  hwe : H a.we = some (.dK (dmap ns fun n => .int (k.we n)))
  hds : ∃ vs, H a.ds = some (.lst vs) ∧ Tups H encD vs ds
  hord : H a.ord = some (.lst (ns.map V.str))
  ap : [x, a.ab, a.ri, a.si, a.we, a.ds].Nodup
  apo : a.ord ≠ a.ds
  hist : Hist ns ds k
  few : ds.length ≤ 1000
  fewn : ns.length < 64
  t0 : 0 ≤ turn
theorem StackAt.noTup {K : PySem.W.Frag} {H : Hp} {x : Addr} {ns : List Str} {sp : Str → Int} {turn : Int} {a : SkA} {ds : List (Deed Str)} {k : Sk Str} (S : StackAt K H x ns sp turn a ds k) : ∀ m ∈ a.mut x, ∀ xs, H m ≠ some (.tup xs) := by
  intro m hm xs h
  obtain ⟨ri, U⟩ := S.up
  obtain ⟨fs, I⟩ := U.ins
  obtain ⟨si, hsi⟩ := S.hsi
  obtain ⟨vs, hds, _⟩ := S.hds
  simp only [SkA.mut, List.mem_cons, List.not_mem_nil, or_false] at hm
  rcases hm with rfl | rfl | rfl | rfl | rfl | rfl
  · rw [I.h] at h; cases h
  · rw [U.hab] at h; cases h
  · rw [U.hri] at h; cases h
  · rw [hsi] at h; cases h
  · rw [S.hwe] at h; cases h
  · rw [hds] at h; cases h
theorem StackAt.stay {K : PySem.W.Frag} {H H' : Hp} {x : Addr} {ns : List Str} {sp : Str → Int} {turn : Int} {a : SkA} {ds : List (Deed Str)} {k : Sk Str} (S : StackAt K H x ns sp turn a ds k) (e : ∀ b o, H b = some o → b ∈ a.mut x ∨ b = a.ord → H' b = some o) (t : TupS H H') : StackAt K H' x ns sp turn a ds k := by
  obtain ⟨ri, U⟩ := S.up
  obtain ⟨si, hsi⟩ := S.hsi
  obtain ⟨vs, hds, ht⟩ := S.hds
  refine ⟨⟨ri, U.keep fun b o h q => e b o h (.inl ?_)⟩, ⟨si, e _ _ hsi (.inl (by simp))⟩, e _ _ S.hwe (.inl (by simp)), ⟨vs, e _ _ hds (.inl (by simp)), ht.stay t⟩, e _ _ S.hord (.inr rfl), S.ap, S.apo, S.hist, S.few, S.fewn, S.t0⟩
  rcases q with rfl | rfl | rfl <;> simp
theorem StackAt.same {K : PySem.W.Frag} {H H' : Hp} {x : Addr} {ns : List Str} {sp : Str → Int} {turn : Int} {a : SkA} {ds : List (Deed Str)} {k : Sk Str} (S : StackAt K H x ns sp turn a ds k) (e : Same H H') : StackAt K H' x ns sp turn a ds k := S.stay (fun b o h _ => e b o h) (Same.tups e)
abbrev N_Stack_look_names_there : List Str := ["self", "some", "name"]
theorem sc_Stack_look_names_there : FnScope N_Stack_look_names_there ["self", "some"] (defScope s_Stack_look_names_there) := ⟨rfl, rfl, rfl, by decide +kernel, rfl, by decide +kernel, by decide +kernel⟩
theorem ok_Stack_look_names_there (T : Txt w K mg) : OkF P w K mg base 1 (mA K "Stack" "look_names_there") ["self", "some"] (fun vs H Q E => ∃ (x l : Addr) (dx : Addr) (fs : List (Str × V)) (d : Addr) (ns some_ : List Str) (f : Str → V), vs = [.ref x, .ref l] ∧ H x = some (.ins (gA K "Stack") dx fs) ∧ lk fs "above" (.ref d) ∧ H d = some (.dK (dmap ns f)) ∧ H l = some (.lst (some_.map V.str)) ∧ (∀ n ∈ some_, n ∈ ns) ∧ Q .non H) := by
  have cl_Stack := Tc_Stack T
  have na_Stack_above := Tn_Stack_above T
  refine okF (Td_Stack_look_names_there T) sc_Stack_look_names_there (fun _ _ _ _ _ _ us hl => match us, hl with | [_, _], _ => rfl) (fun vs H Q E h => ?_) (fun cdv A outer s H vs Q E hr h => have hu := hu_of hr; ⟨_, (pss_one (ps_for PassesOwn.never rfl (pi_list (pv 1)) (pg_name (i := 2) sc_Stack_look_names_there.nd rfl (by first | exact Or.inl rfl | exact Or.inr rfl))
      (pss_one (ps_if (pt_cmp (pc_dnotin hu (pv 2) (pe_fldK K (pv 0) rfl))) (pss_one ps_never) pss_nil)))), ?_⟩)
  · obtain ⟨x, l, dx, fs, d, ns, some_, f, rfl, _⟩ := h
    rfl
  · obtain ⟨x, l, dx, fs, d, ns, some_, f, rfl, hx, hd, hdd, hl, hin, k⟩ := h
    walk_at "jrd"
    refine loop_list (xs := some_.map V.str) (fun i σ H' => H' = H ∧ ∃ v, σ = [some (.ref x), some (.ref l), v]) ⟨rfl, _, rfl⟩ (fun i σ H' _ p => p.1 ▸ hl) ?_ ?_
    · rintro i y σ H' hi ⟨rfl, v, rfl⟩
      rw [List.getElem?_map, Option.map_eq_some_iff] at hi
      obtain ⟨n, hn, rfl⟩ := hi
      walk_at "jrd"
      refine r_dnotinS hdd ?_
      rw [valV_dmap_some, decide_eq_true (hin n (List.mem_of_getElem? hn))]
      walk_at "jrd"
      refine ite_F rfl ?_
      walk_at "jrd"
      exact ⟨rfl, _, rfl⟩
    · rintro σ H' ⟨rfl, v, rfl⟩
      exact k
def sp_up_from (K : PySem.W.Frag) : Sp := fun vs H Q _ => ∃ (x : Addr) (n : Str) (ns : List Str) (sp : Str → Int) (turn : Int) (a : SkA) (k : Sk Str) (ri : Str → Int), vs = [.ref x, .str n] ∧ SUp K H x ns sp turn a k ri ∧ n ∈ ns ∧ (∀ n, k.dp n ≤ 1000) ∧
  ∀ (p l : Addr) (far : Int) (vs' : List V) (H' : Hp), Same H H' → H' p = some (.tup [.ref l, .int far]) → H' l = some (.lst (vs' ++ [.str (k.rt n)])) → vs'.length ≤ 1000 → (far - (sp n - sp (k.rt n))) % turn = 0 → Q (.ref p) H'
abbrev N_Stack_up_from : List Str := ["self", "name", "row", "far"]
theorem sc_Stack_up_from : FnScope N_Stack_up_from ["self", "name"] (defScope s_Stack_up_from) := ⟨rfl, rfl, rfl, by decide +kernel, rfl, by decide +kernel, by decide +kernel⟩
theorem ok_Stack_up_from (T : Txt w K mg) : OkF P w K mg base 1 (mA K "Stack" "up_from") ["self", "name"] (sp_up_from K) := by
  have cl_Stack := Tc_Stack T
  have na_Stack_above := Tn_Stack_above T
  have na_Stack_rise := Tn_Stack_rise T
  refine okF (Td_Stack_up_from T) sc_Stack_up_from (fun _ _ _ _ _ _ us hl => match us, hl with | [_, _], _ => rfl) (fun vs H Q E h => ?_) (fun cdv A outer s H vs Q E hr h => have hu := hu_of hr; ⟨_, (pss_cons (ps_set (i := 2) sc_Stack_up_from.nd rfl (by first | exact Or.inl rfl | exact Or.inr rfl) (pe_lst (pa_cons (pv 1) pa_nil)))
      (pss_cons (ps_set (i := 3) sc_Stack_up_from.nd rfl (by first | exact Or.inl rfl | exact Or.inr rfl) pe_int)
      (pss_cons (ps_while PassesOwn.never (pt_cmpR op_ne (pe_dget hu (pe_fldK K (pv 0) rfl) (pe_ix (ix_listK K) (pv 2) (pe_un un_neg pe_int) (fun _ _ => rfl)) (fun _ _ => rfl)) (pe_ix (ix_listK K) (pv 2) (pe_un un_neg pe_int) (fun _ _ => rfl)) (nomark _)) (pss_cons (ps_aug (i := 3) sc_Stack_up_from.nd rfl (by first | exact Or.inl rfl | exact Or.inr rfl) (pe_dget hu (pe_fldK K (pv 0) rfl) (pe_ix (ix_listK K) (pv 2) (pe_un un_neg pe_int) (fun _ _ => rfl)) (fun _ _ => rfl)) ip_add)
      (pss_one (ps_expr (pe_bm PySem.F.plainAttrs_list PySem.F.slot_list_append PySem.F.type_list_append mt_append (pv 2) (pa_cons (pe_dget hu (pe_fldK K (pv 0) rfl) (pe_ix (ix_listK K) (pv 2) (pe_un un_neg pe_int) (fun _ _ => rfl)) (fun _ _ => rfl)) pa_nil))))))
      (pss_one (ps_ret (pe_tup (pa_cons (pv 2) (pa_cons (pv 3) pa_nil)))))))), ?_⟩)
  · obtain ⟨x, n, ns, sp, turn, a, k, ri, rfl, _⟩ := h
    rfl
  · obtain ⟨x, n, ns, sp, turn, a, k, ri, rfl, S, hn, hd, q⟩ := h
    walk_at "jrd"
    refine w_while (fun m σ H2 => ∃ (vs' : List V) (cur : Str) (far : Int), σ = [some (.ref x), some (.str n), some (.ref p), some (.int far)] ∧ Same H H2 ∧ H2 p = some (.lst (vs' ++ [.str cur])) ∧ cur ∈ ns ∧ k.rt cur = k.rt n ∧ (far - (sp n - sp cur)) % turn = 0 ∧ m = k.dp cur ∧ vs'.length + k.dp cur ≤ 1000)
      ⟨_, [], n, 0, rfl, he, hp, hn, rfl, by simp, rfl, by simpa using hd n⟩ ?_
    rintro m σ H2 ⟨vs', cur, far, rfl, e2, h2, hc, hr2, hf2, rfl, hl⟩
    obtain ⟨⟨fs, I⟩, hab, hri, fo, rise⟩ := S.same e2
    have i1 := I.h; have i2 := I.ab; have i3 := I.ri
    walk_at "jrd"
    refine ite_nof (fun hne => ?_) (fun heq => ?_)
    · refine ⟨_, fun _ _ h => h, ?_⟩
      walk_at "jrd"
      have up := fo.up cur fun z => hne z
      have hz := hd cur
      rw [List.append_assoc] at hp_1
      refine ⟨_, by rw [up.2]; exact Nat.lt_succ_self _, vs' ++ [.str cur], k.ab cur, far + ri cur, rfl, Same.mut e2 hn_1 hf, by rw [hp_1]; simp, fo.abn _ hc, up.1.symm.trans hr2, ?_, rfl, by simp; omega⟩
      have d1 := Int.dvd_of_emod_eq_zero hf2
      have d2 := Int.dvd_of_emod_eq_zero (rise cur hc hne)
      have d3 := Int.dvd_add d1 d2
      apply Int.emod_eq_zero_of_dvd
      have e : far - (sp n - sp cur) + (ri cur - (sp cur - sp (k.ab cur))) = far + ri cur - (sp n - sp (k.ab cur)) := by omega
      rwa [e] at d3
    · walk_at "jrd"
      have e0 := (fo.root cur heq).1
      refine q p_1 p far vs' H'_1 (e2.trans he_1) hp_1 (he_1 _ _ (by rw [h2, ← hr2, e0])) (by omega) ?_
      rw [← hr2, e0]
      exact hf2
theorem StackAt.stay' {K : PySem.W.Frag} {H H' : Hp} {x : Addr} {ns : List Str} {sp : Str → Int} {turn : Int} {a : SkA} {ds : List (Deed Str)} {k : Sk Str} {fs : List (Str × V)} (S : StackAt K H x ns sp turn a ds k) (f : Fr1 x H H') (I : SIns K H' x turn a fs) : StackAt K H' x ns sp turn a ds k := by
  obtain ⟨ri, U⟩ := S.up
  obtain ⟨fs0, I0⟩ := U.ins
  obtain ⟨si, hsi⟩ := S.hsi
  obtain ⟨vs, hds, ht⟩ := S.hds
  have t : TupS H H' := f.tups I0.h (by intro xs z; cases z)
  have n : ∀ {b o}, H b = some o → (∀ C dx g, o ≠ .ins C dx g) → H' b = some o := fun h d => f _ _ h (ne_of h I0.h (d _ _ _))
  exact ⟨⟨ri, ⟨fs, I⟩, n U.hab (by intro _ _ _ z; cases z), n U.hri (by intro _ _ _ z; cases z), U.fo, U.rise⟩, ⟨si, n hsi (by intro _ _ _ z; cases z)⟩, n S.hwe (by intro _ _ _ z; cases z), ⟨vs, n hds (by intro _ _ _ z; cases z), ht.stay t⟩, n S.hord (by intro _ _ _ z; cases z), S.ap, S.apo, S.hist, S.few, S.fewn, S.t0⟩
def encD4 : Deed Str → List V
  | .join o p s _ => [.str "join", .str o, .str p, .int s]
  | .weigh n v _ => [.str "weigh", .str n, .int v]
def encR (r : Str × Str × Int) : List V := [.str r.1, .str r.2.1, .int r.2.2]
def sp_both_up (K : PySem.W.Frag) : Sp := fun vs H Q _ => ∃ (x : Addr) (o p : Str) (ns : List Str) (sp : Str → Int) (turn : Int) (a : SkA) (ds : List (Deed Str)) (k : Sk Str), vs = [.ref x, .str o, .str p] ∧ StackAt K H x ns sp turn a ds k ∧ o ∈ ns ∧ p ∈ ns ∧
  ∀ (q : Addr) (far wide : Int) (H' : Hp), FrM [x] H H' → StackAt K H' x ns sp turn a ds k → H' q = some (.tup [.str (k.rt o), .int far, .str (k.rt p), .int wide]) → (far - (sp o - sp (k.rt o))) % turn = 0 → (wide - (sp p - sp (k.rt p))) % turn = 0 → Q (.ref q) H'
abbrev N_Stack_both_up : List Str := ["self", "one", "other", "row", "far", "further", "wide"]
theorem sc_Stack_both_up : FnScope N_Stack_both_up ["self", "one", "other"] (defScope s_Stack_both_up) := ⟨rfl, rfl, rfl, by decide +kernel, rfl, by decide +kernel, by decide +kernel⟩
theorem ok_Stack_both_up (T : Txt w K mg) : OkF P w K mg base 2 (mA K "Stack" "both_up") ["self", "one", "other"] (sp_both_up K) := by
  obtain ⟨fd_Stack_look_names_there, c_Stack_look_names_there⟩ := ok_Stack_look_names_there (P := P) (base := base) T
  obtain ⟨fd_Stack_up_from, c_Stack_up_from⟩ := ok_Stack_up_from (P := P) (base := base) T
  have cl_Stack := Tc_Stack T
  have na_Stack_looked := Tn_Stack_looked T
  refine okF (Td_Stack_both_up T) sc_Stack_both_up (fun _ _ _ _ _ _ us hl => match us, hl with | [_, _, _], _ => rfl) (fun vs H Q E h => ?_) (fun cdv A outer s H vs Q E hr h => have hu := hu_of hr; ⟨_, (pss_cons (ps_expr (pe_meth (pv 0) (Tc_Stack T) (Tm_Stack_look_names_there T) c_Stack_look_names_there.1 (hr.mono (by decide)) c_Stack_look_names_there.2.1 .nil pass0 (pa_cons (pe_lst (pa_cons (pv 1) (pa_cons (pv 2) pa_nil))) pa_nil)))
      (pss_cons (ps_asg (pe_meth (pv 0) (Tc_Stack T) (Tm_Stack_up_from T) c_Stack_up_from.1 (hr.mono (by decide)) c_Stack_up_from.2.1 .nil pass0 (pa_cons (pv 1) pa_nil)) (pg_tupK K (n := 2) rfl (pgs_cons (pg_name (i := 3) sc_Stack_both_up.nd rfl (by first | exact Or.inl rfl | exact Or.inr rfl)) (pgs_cons (pg_name (i := 4) sc_Stack_both_up.nd rfl (by first | exact Or.inl rfl | exact Or.inr rfl)) pgs_nil))))
      (pss_cons (ps_asg (pe_meth (pv 0) (Tc_Stack T) (Tm_Stack_up_from T) c_Stack_up_from.1 (hr.mono (by decide)) c_Stack_up_from.2.1 .nil pass0 (pa_cons (pv 2) pa_nil)) (pg_tupK K (n := 2) rfl (pgs_cons (pg_name (i := 5) sc_Stack_both_up.nd rfl (by first | exact Or.inl rfl | exact Or.inr rfl)) (pgs_cons (pg_name (i := 6) sc_Stack_both_up.nd rfl (by first | exact Or.inl rfl | exact Or.inr rfl)) pgs_nil))))
      (pss_cons (ps_fld (pv 0) (pe_op op_add (pe_callB (call_lenJ K) (by rfl) (Tf_len T) (by decide +kernel) (pa_cons (pv 3) pa_nil)) (pe_callB (call_lenJ K) (by rfl) (Tf_len T) (by decide +kernel) (pa_cons (pv 5) pa_nil))) rfl)
      (pss_one (ps_ret (pe_tup (pa_cons (pe_ix (ix_listK K) (pv 3) (pe_un un_neg pe_int) (fun _ _ => rfl)) (pa_cons (pv 4) (pa_cons (pe_ix (ix_listK K) (pv 5) (pe_un un_neg pe_int) (fun _ _ => rfl)) (pa_cons (pv 6) pa_nil))))))))))), ?_⟩)
  · obtain ⟨x, o, p, ns, sp, turn, a, ds, k, rfl, _⟩ := h
    rfl
  · obtain ⟨x, o, p, ns, sp, turn, a, ds, k, rfl, S, ho, hp, q⟩ := h
    obtain ⟨ri, U⟩ := S.up
    obtain ⟨fs, I⟩ := U.ins
    have i1 := I.h; have i2 := I.nm
    have dep : ∀ n, k.dp n ≤ 1000 := fun n => Nat.le_trans (S.hist.depth n) S.few
    walk_at "jrd"
    refine ⟨x, p_1, a.dx, fs, a.ab, ns, [o, p], _, rfl, he _ _ i1, I.ab, he _ _ U.hab, hp_1, by simp [ho, hp], ?_⟩
    walk_at "jrd"
    refine ⟨x, o, ns, sp, turn, a, k, ri, rfl, U.same he, ho, dep, fun t l far vs' H2 e2 ht hl hz hc => ?_⟩
    walk_at "jrd"
    refine ⟨x, p, ns, sp, turn, a, k, ri, rfl, (U.same he).same e2, hp, dep, fun t' l' wide vs2 H3 e3 ht' hl' hz' hc' => ?_⟩
    have i3 := I.len
    walk_at "jrd"
    have e13 : Same H H3 := (he.trans e2).trans e3
    have f : Fr1 x H H'_2 := fun b o h n => he_1 b o (hf b o (e13 b o h) n)
    refine q p_2 far wide H'_2 f.many (S.stay' f (I.look (he_1 _ _ hp_2))) hp_3 hc hc'
end
section
variable {P : Program} {w : World} {K : PySem.W.Frag} {mg : Str → Option Value} {base : Heap}
abbrev N_Stack_head_of : List Str := ["self", "name"]
theorem sc_Stack_head_of : FnScope N_Stack_head_of ["self", "name"] (defScope s_Stack_head_of) := ⟨rfl, rfl, rfl, by decide +kernel, rfl, by decide +kernel, by decide +kernel⟩
theorem ok_Stack_head_of (T : Txt w K mg) : OkF P w K mg base 2 (mA K "Stack" "head_of") ["self", "name"] (fun vs H Q _ => ∃ (x : Addr) (n : Str) (ns : List Str) (sp : Str → Int) (turn : Int) (a : SkA) (ds : List (Deed Str)) (k : Sk Str), vs = [.ref x, .str n] ∧ StackAt K H x ns sp turn a ds k ∧ n ∈ ns ∧ ∀ H', Same H H' → Q (.str (k.rt n)) H') := by
  obtain ⟨fd_Stack_up_from, c_Stack_up_from⟩ := ok_Stack_up_from (P := P) (base := base) T
  have cl_Stack := Tc_Stack T
  refine okF (Td_Stack_head_of T) sc_Stack_head_of (fun _ _ _ _ _ _ us hl => match us, hl with | [_, _], _ => rfl) (fun vs H Q E h => ?_) (fun cdv A outer s H vs Q E hr h => have hu := hu_of hr; ⟨_, (pss_one (ps_ret (pe_ix (ix_listK K) (pe_ix (ix_tupK K) (pe_meth (pv 0) (Tc_Stack T) (Tm_Stack_up_from T) c_Stack_up_from.1 (hr.mono (by decide)) c_Stack_up_from.2.1 .nil pass0 (pa_cons (pv 1) pa_nil)) pe_int (fun _ _ => rfl)) (pe_un un_neg pe_int) (fun _ _ => rfl)))), ?_⟩)
  · obtain ⟨x, n, ns, sp, turn, a, ds, k, rfl, _⟩ := h
    rfl
  · obtain ⟨x, n, ns, sp, turn, a, ds, k, rfl, S, hn, q⟩ := h
    obtain ⟨ri, U⟩ := S.up
    obtain ⟨fs, I⟩ := U.ins
    have i1 := I.h; have i2 := I.nm
    walk_at "jrd"
    refine ⟨x, n, ns, sp, turn, a, k, ri, rfl, U, hn, fun n => Nat.le_trans (S.hist.depth n) S.few, fun t l far vs' H2 e2 ht hl hz hc => ?_⟩
    walk_at "jrd"
    exact q H2 e2
def sp_put_under (K : PySem.W.Frag) : Sp := fun vs H Q _ => ∃ (x : Addr) (hd ch : Str) (far : Int) (ns : List Str) (turn : Int) (a : SkA) (fs : List (Str × V)) (ab : Str → Str) (ri si : Str → Int), vs = [.ref x, .str hd, .str ch, .int far] ∧ SIns K H x turn a fs ∧ H a.ab = some (.dK (dmap ns fun n => .str (ab n))) ∧ H a.ri = some (.dK (dmap ns fun n => .int (ri n))) ∧ H a.si = some (.dK (dmap ns fun n => .int (si n))) ∧
  hd ∈ ns ∧ ch ∈ ns ∧ [x, a.ab, a.ri, a.si, a.we, a.ds].Nodup ∧ ns.length ≤ 1000 ∧
  ∀ (H' : Hp) (si' : Str → Int), FrM [a.ab, a.ri, a.si] H H' → H' a.ab = some (.dK (dmap ns fun n => .str (sf ab ch hd n))) → H' a.ri = some (.dK (dmap ns fun n => .int (sf ri ch far n))) → H' a.si = some (.dK (dmap ns fun n => .int (si' n))) → Q .non H'
abbrev N_Stack_put_under : List Str := ["self", "head", "child", "far"]
theorem sc_Stack_put_under : FnScope N_Stack_put_under ["self", "head", "child", "far"] (defScope s_Stack_put_under) := ⟨rfl, rfl, rfl, by decide +kernel, rfl, by decide +kernel, by decide +kernel⟩
theorem ok_Stack_put_under (T : Txt w K mg) : OkF P w K mg base 1 (mA K "Stack" "put_under") ["self", "head", "child", "far"] (sp_put_under K) := by
  have cl_Stack := Tc_Stack T
  have na_Stack_above := Tn_Stack_above T
  have na_Stack_rise := Tn_Stack_rise T
  have na_Stack_sizes := Tn_Stack_sizes T
  refine okF (Td_Stack_put_under T) sc_Stack_put_under (fun _ _ _ _ _ _ us hl => match us, hl with | [_, _, _, _], _ => rfl) (fun vs H Q E h => ?_) (fun cdv A outer s H vs Q E hr h => have hu := hu_of hr; ⟨_, (pss_cons (ps_dput hu (pe_fldK K (pv 0) rfl) (pv 2) (pv 1) rfl)
      (pss_cons (ps_dput hu (pe_fldK K (pv 0) rfl) (pv 2) (pv 3) rfl)
      (pss_one (ps_daug hu (pe_fldK K (pv 0) rfl) (pv 1) (pe_dget hu (pe_fldK K (pv 0) rfl) (pv 2) (fun _ _ => rfl)) in_add (fun _ _ _ => rfl))))), ?_⟩)
  · obtain ⟨x, hd, ch, far, ns, turn, a, fs, ab, ri, si, rfl, _⟩ := h
    rfl
  · obtain ⟨x, hd, ch, far, ns, turn, a, fs, ab, ri, si, rfl, I, hab, hri, hsi, hh, hc, nd, hl, q⟩ := h
    have i1 := I.h; have i2 := I.ab; have i3 := I.ri; have i4 := I.si
    have n1 : a.ab ≠ a.ri := fun z => by simp [z] at nd
    have n2 : a.ab ≠ a.si := fun z => by simp [z] at nd
    have n3 : a.ri ≠ a.si := fun z => by simp [z] at nd
    walk_at "jrd"
    have hp2 : H'_2 a.ab = _ := hf_2 _ _ (hf_1 _ _ hp n1) n2
    have hp4 : H'_2 a.ri = _ := hf_2 _ _ hp_1 n3
    rw [setF_str] at hp2
    rw [setF_int] at hp4 hp_2
    refine q H'_2 _ (fun b o hb n => ?_) hp2 hp4 hp_2
    simp only [List.mem_cons, List.not_mem_nil, or_false, not_or] at n
    exact hf_2 _ _ (hf_1 _ _ (hf _ _ hb n.1) n.2.1) n.2.2
abbrev N_Stack_standing : List Str := ["self", "deed"]
theorem sc_Stack_standing : FnScope N_Stack_standing ["self"] (defScope s_Stack_standing) := ⟨rfl, rfl, rfl, by decide +kernel, rfl, by decide +kernel, by decide +kernel⟩
theorem ok_Stack_standing (T : Txt w K mg) : OkF P w K mg base 1 (mA K "Stack" "standing") ["self"] (fun vs H Q _ => ∃ (x : Addr) (ns : List Str) (sp : Str → Int) (turn : Int) (a : SkA) (ds : List (Deed Str)) (k : Sk Str), vs = [.ref x] ∧ StackAt K H x ns sp turn a ds k ∧ ∀ p vs' H', Same H H' → H p = none → H' p = some (.lst vs') → Tups H' encR vs' (joinsOf ds) → Q (.ref p) H') := by
  have cl_Stack := Tc_Stack T
  have na_Stack_done_deeds := Tn_Stack_done_deeds T
  refine okF (Td_Stack_standing T) sc_Stack_standing (fun _ _ _ _ _ _ us hl => match us, hl with | [_], _ => rfl) (fun vs H Q E h => ?_) (fun cdv A outer s H vs Q E hr h => have hu := hu_of hr; ⟨_, (pss_one (ps_ret (pe_lc (own := [("deed", 1)]) rfl sc_Stack_standing.nd (pi_list (pe_fldK K (pv 0) rfl)) (blkOk_by (N := N_Stack_standing) (sc := defScope s_Stack_standing) (by decide +kernel)) (fun _ _ _ _ _ => (pg_name (i := 1) sc_Stack_standing.nd rfl (by first | exact Or.inl rfl | exact Or.inr rfl))) (fun _ _ _ _ _ => (pts_one (pt_cmpR op_eq (pe_ix (ix_tupK K) (pv 1) pe_int (fun _ _ => rfl)) pe_str (nomark _)))) (fun _ _ _ _ _ => (pe_slice (sl_tupK K) (pv 1) (po_some pe_int) (po_some pe_int)))))), ?_⟩)
  · obtain ⟨x, ns, sp, turn, a, ds, k, rfl, _⟩ := h
    rfl
  · obtain ⟨x, ns, sp, turn, a, ds, k, rfl, S, q⟩ := h
    obtain ⟨ri, U⟩ := S.up
    obtain ⟨fs, I⟩ := U.ins
    have i1 := I.h; have i2 := I.ds
    obtain ⟨ws, hds, ht⟩ := S.hds
    walk_at "jrd"
    refine lc_M [] walk_list (fun H' f => SqL.of (frM_nil f _ _ hds)) (by have := ht.1; have := S.few; omega) (by simp) (fun i acc H' => Tups H' encR acc (joinsOf (ds.take i))) Tups.nil (fun i acc H1 H2 p t m => p.stay t) ?_ ?_
    · rintro i y acc H1 H1' KY KN hi p1 f1 ⟨rfl, hy⟩ hacc hY hN
      obtain ⟨d, t, hd, rfl, htd⟩ := (ht.stay (Same.tups (frM_nil f1))).2 i y hy
      have et : joinsOf (ds.take (i + 1)) = joinsOf (ds.take i) ++ joinsOf [d] := by rw [take_more hd, joinsOf_append]
      cases d with
      | join o p s c =>
        unfold encD at htd
        walk_at "jrd"
        refine ⟨rfl, ?_⟩
        walk_at "jrd"
        refine ite_T (by decide) ?_
        walk_at "jrd"
        refine hY _ _ (Same.frM he) ?_
        rw [et]
        exact (p1.stay (Same.tups he)).snoc hp
      | weigh n v old =>
        unfold encD at htd
        walk_at "jrd"
        refine ⟨rfl, ?_⟩
        walk_at "jrd"
        refine ite_F (by decide) (hN _ (FrM.refl _ _) ?_)
        rw [et]
        show Tups H1' encR acc (joinsOf (ds.take i) ++ [])
        rw [List.append_nil]
        exact p1
    · rintro acc D H' hD f hp p _
      refine q D acc H' (frM_nil f) hD hp ?_
      rw [List.take_of_length_le (by rw [ht.1]; exact Nat.le_refl _)] at p
      exact p
end
section
variable {P : Program} {w : World} {K : PySem.W.Frag} {mg : Str → Option Value} {base : Heap}
theorem cnt_congr {t a b : Int} (h0 : 0 ≤ t) (h : (a - b) % t = 0) : cnt t a = cnt t b := by
  unfold cnt
  by_cases ht : t = 0
  · rw [if_pos ht, if_pos ht]
    subst ht
    rw [Int.emod_zero] at h; omega
  · rw [if_neg ht, if_neg ht, Int.fmod_eq_emod_of_nonneg _ h0, Int.fmod_eq_emod_of_nonneg _ h0]
    exact Int.emod_eq_emod_iff_emod_sub_eq_zero.mpr h
theorem mod_add {t a b : Int} (h1 : a % t = 0) (h2 : b % t = 0) : (a + b) % t = 0 := Int.emod_eq_zero_of_dvd (Int.dvd_add (Int.dvd_of_emod_eq_zero h1) (Int.dvd_of_emod_eq_zero h2))
theorem mod_sub {t a b : Int} (h1 : a % t = 0) (h2 : b % t = 0) : (a - b) % t = 0 := Int.emod_eq_zero_of_dvd (Int.dvd_sub (Int.dvd_of_emod_eq_zero h1) (Int.dvd_of_emod_eq_zero h2))
def sp_stk_join (K : PySem.W.Frag) : Sp := fun vs H Q _ => ∃ (x : Addr) (o p : Str) (st : Int) (ns : List Str) (sp : Str → Int) (turn : Int) (a : SkA) (ds : List (Deed Str)) (k : Sk Str), vs = [.ref x, .str o, .str p, .int st] ∧ StackAt K H x ns sp turn a ds k ∧ o ∈ ns ∧ p ∈ ns ∧
  (st - (sp p - sp o)) % turn = 0 ∧ ds.length < 1000 ∧
  ∀ (q : Addr) (H' : Hp) (k' : Sk Str) (c : Option Str), FrM (a.mut x) H H' → StackAt K H' x ns sp turn a (ds ++ [.join o p st c]) k' → H' q = some (.tup [.str (if labR (joinsOf ds) o = labR (joinsOf ds) p then "known" else "joined"), .int (joinsOf ds).length]) → Q (.ref q) H'
theorem nd_ne {x : Addr} {a : SkA} (h : [x, a.ab, a.ri, a.si, a.we, a.ds].Nodup) : x ≠ a.ab ∧ x ≠ a.ri ∧ x ≠ a.si ∧ x ≠ a.we ∧ x ≠ a.ds ∧ a.ab ≠ a.ri ∧ a.ab ≠ a.si ∧ a.ab ≠ a.we ∧ a.ab ≠ a.ds ∧ a.ri ≠ a.si ∧ a.ri ≠ a.we ∧ a.ri ≠ a.ds ∧ a.si ≠ a.we ∧ a.si ≠ a.ds ∧ a.we ≠ a.ds := by
  simp only [List.nodup_cons, List.mem_cons, List.not_mem_nil, or_false, not_or, not_false_iff, List.nodup_nil, and_true] at h
  obtain ⟨⟨h1, h2, h3, h4, h5⟩, ⟨h6, h7, h8, h9⟩, ⟨h10, h11, h12⟩, ⟨h13, h14⟩, h15⟩ := h
  exact ⟨h1, h2, h3, h4, h5, h6, h7, h8, h9, h10, h11, h12, h13, h14, h15⟩
abbrev N_Stack_join : List Str := ["self", "one", "other", "step", "head", "far", "other_head", "wide", "many", "known", "child"]
theorem sc_Stack_join : FnScope N_Stack_join ["self", "one", "other", "step"] (defScope s_Stack_join) := ⟨rfl, rfl, rfl, by decide +kernel, rfl, by decide +kernel, by decide +kernel⟩
theorem ok_Stack_join (T : Txt w K mg) : OkF P w K mg base 3 (mA K "Stack" "join") ["self", "one", "other", "step"] (sp_stk_join K) := by
  obtain ⟨fd_Stack_both_up, c_Stack_both_up⟩ := ok_Stack_both_up (P := P) (base := base) T
  obtain ⟨fd_Stack_standing, c_Stack_standing⟩ := ok_Stack_standing (P := P) (base := base) T
  obtain ⟨fd_counted, c_counted⟩ := ok_counted (P := P) (base := base) T
  obtain ⟨fd_Stack_put_under, c_Stack_put_under⟩ := ok_Stack_put_under (P := P) (base := base) T
  have cl_Stack := Tc_Stack T
  have na_Stack_done_deeds := Tn_Stack_done_deeds T
  have na_Stack_sizes := Tn_Stack_sizes T
  have na_Stack_turn := Tn_Stack_turn T
  refine okF (Td_Stack_join T) sc_Stack_join (fun _ _ _ _ _ _ us hl => match us, hl with | [_, _, _, _], _ => rfl) (fun vs H Q E h => ?_) (fun cdv A outer s H vs Q E hr h => have hu := hu_of hr; ⟨_, (pss_cons (ps_asg (pe_meth (pv 0) (Tc_Stack T) (Tm_Stack_both_up T) c_Stack_both_up.1 (hr.mono (by decide)) c_Stack_both_up.2.1 .nil pass0 (pa_cons (pv 1) (pa_cons (pv 2) pa_nil))) (pg_tupK K (n := 4) rfl (pgs_cons (pg_name (i := 4) sc_Stack_join.nd rfl (by first | exact Or.inl rfl | exact Or.inr rfl)) (pgs_cons (pg_name (i := 5) sc_Stack_join.nd rfl (by first | exact Or.inl rfl | exact Or.inr rfl)) (pgs_cons (pg_name (i := 6) sc_Stack_join.nd rfl (by first | exact Or.inl rfl | exact Or.inr rfl)) (pgs_cons (pg_name (i := 7) sc_Stack_join.nd rfl (by first | exact Or.inl rfl | exact Or.inr rfl)) pgs_nil))))))
      (pss_cons (ps_set (i := 8) sc_Stack_join.nd rfl (by first | exact Or.inl rfl | exact Or.inr rfl) (pe_callB (call_lenJ K) (by rfl) (Tf_len T) (by decide +kernel) (pa_cons (pe_meth0 (pv 0) (Tc_Stack T) (Tm_Stack_standing T) c_Stack_standing.1 (hr.mono (by decide)) c_Stack_standing.2.1 .nil pass0) pa_nil)))
      (pss_cons (ps_if (pt_cmpR op_eq (pv 4) (pv 6) (nomark _)) (pss_cons (ps_set (i := 9) sc_Stack_join.nd rfl (by first | exact Or.inl rfl | exact Or.inr rfl) (pe_call c_counted.1 (hr.mono (by decide)) rfl (Tg_counted T) c_counted.2.2 c_counted.2.1 .nil pass0 (pa_cons (pe_fldK K (pv 0) rfl) (pa_cons (pe_op op_sub (pv 7) (pv 5)) pa_nil))))
      (pss_cons (ps_if (pt_cmpR op_ne (pv 9) (pe_call c_counted.1 (hr.mono (by decide)) rfl (Tg_counted T) c_counted.2.2 c_counted.2.1 .nil pass0 (pa_cons (pe_fldK K (pv 0) rfl) (pa_cons (pv 3) pa_nil))) (nomark _)) (pss_one (ps_ret (pe_tup (pa_cons pe_str (pa_cons (pv 9) pa_nil))))) pss_nil)
      (pss_cons (ps_expr (pe_bm PySem.F.plainAttrs_list PySem.F.slot_list_append PySem.F.type_list_append mt_append (pe_fldK K (pv 0) rfl) (pa_cons (pe_tup (pa_cons pe_str (pa_cons (pv 1) (pa_cons (pv 2) (pa_cons (pv 3) (pa_cons pe_non pa_nil)))))) pa_nil)))
      (pss_one (ps_ret (pe_tup (pa_cons pe_str (pa_cons (pv 8) pa_nil)))))))) pss_nil)
      (pss_cons (ps_set (i := 10) sc_Stack_join.nd rfl (by first | exact Or.inl rfl | exact Or.inr rfl) (pv 6))
      (pss_cons (ps_if (pt_cmpR op_lt (pe_dget hu (pe_fldK K (pv 0) rfl) (pv 4) (fun _ _ => rfl)) (pe_dget hu (pe_fldK K (pv 0) rfl) (pv 6) (fun _ _ => rfl)) (nomark _)) (pss_cons (ps_set (i := 10) sc_Stack_join.nd rfl (by first | exact Or.inl rfl | exact Or.inr rfl) (pv 4))
      (pss_one (ps_expr (pe_meth (pv 0) (Tc_Stack T) (Tm_Stack_put_under T) c_Stack_put_under.1 (hr.mono (by decide)) c_Stack_put_under.2.1 .nil pass0 (pa_cons (pv 6) (pa_cons (pv 4) (pa_cons (pe_op op_sub (pe_op op_sub (pv 7) (pv 5)) (pv 3)) pa_nil))))))) (pss_one (ps_expr (pe_meth (pv 0) (Tc_Stack T) (Tm_Stack_put_under T) c_Stack_put_under.1 (hr.mono (by decide)) c_Stack_put_under.2.1 .nil pass0 (pa_cons (pv 4) (pa_cons (pv 6) (pa_cons (pe_op op_sub (pe_op op_add (pv 5) (pv 3)) (pv 7)) pa_nil)))))))
      (pss_cons (ps_expr (pe_bm PySem.F.plainAttrs_list PySem.F.slot_list_append PySem.F.type_list_append mt_append (pe_fldK K (pv 0) rfl) (pa_cons (pe_tup (pa_cons pe_str (pa_cons (pv 1) (pa_cons (pv 2) (pa_cons (pv 3) (pa_cons (pv 10) pa_nil)))))) pa_nil)))
      (pss_one (ps_ret (pe_tup (pa_cons pe_str (pa_cons (pv 8) pa_nil))))))))))), ?_⟩)
  · obtain ⟨x, o, p, st, ns, sp, turn, a, ds, k, rfl, _⟩ := h
    rfl
  · obtain ⟨x, o, p, st, ns, sp, turn, a, ds, k, rfl, S, ho, hp, hst, hlt, q⟩ := h
    obtain ⟨ri0, U0⟩ := S.up
    obtain ⟨fs0, I0⟩ := U0.ins
    have i1 := I0.h; have i2 := I0.nm
    walk_at "jrd"
    refine ⟨x, o, p, ns, sp, turn, a, ds, k, rfl, S, ho, hp, fun t far wide H1 f1 S1 ht hc1 hc2 => ?_⟩
    clear i1 i2
    obtain ⟨ri1, U1⟩ := S1.up
    obtain ⟨fs1, I1⟩ := U1.ins
    have i1 := I1.h; have i2 := I1.nm
    walk_at "jrd"
    refine ⟨x, ns, sp, turn, a, ds, k, rfl, S1, fun l vs' H2 e2 _ hl hT => ?_⟩
    clear i1 i2
    have S2 := S1.same e2
    obtain ⟨ri2, U2⟩ := S2.up
    obtain ⟨fs2, I2⟩ := U2.ins
    obtain ⟨si2, hsi2⟩ := S2.hsi
    obtain ⟨ws, hds, hW⟩ := S2.hds
    have i1 := I2.h; have i2 := I2.nm; have i3 := I2.turn; have i4 := I2.ds; have i5 := I2.si
    have dep : ∀ n, k.dp n ≤ 1000 := fun n => Nat.le_trans (S.hist.depth n) S.few
    have nd := nd_ne S.ap
    have hro := U2.fo.rtn _ ho
    have hrp := U2.fo.rtn _ hp
    have ewl : ws.length = ds.length := hW.1
    have F02 : FrM [x] H H2 := f1.trans (Same.frM e2)
    walk_at "jrd"
    refine ite_of (fun heq => ?_) (fun hne => ?_)
    · walk_at "jrd"
      refine ⟨_, _, rfl, ?_⟩
      walk_at "jrd"
      refine ⟨_, _, rfl, ?_⟩
      walk_at "jrd"
      have ec : cnt turn (wide - far) = cnt turn st := cnt_congr S.t0 (by
        have q1 := mod_sub (mod_sub hc2 hc1) hst
        rw [heq] at q1
        have e : wide - (sp p - sp (k.rt p)) - (far - (sp o - sp (k.rt p))) - (st - (sp p - sp o)) = wide - far - st := by omega
        rwa [e] at q1)
      refine ite_nof (fun z => absurd ec z) fun _ => ?_
      walk_at "jrd"
      have g : ∀ b o, H2 b = some o → b ≠ a.ds → H'_2 b = some o := fun b o h n => he_1 _ _ (hf _ _ (he _ _ h) n)
      have tt : TupS H2 H'_2 := fun t xs h => g _ _ h (ne_of h hds (by intro z; cases z))
      have el : labR (joinsOf ds) o = labR (joinsOf ds) p := (S.hist.lab o p).mp heq
      refine q p_2 H'_2 _ none (fun b o h n => ?_) (StackAt.mk ⟨ri2, ⟨fs2, { I2 with h := g _ _ I2.h nd.2.2.2.2.1 }⟩, g _ _ U2.hab nd.2.2.2.2.2.2.2.2.1, g _ _ U2.hri nd.2.2.2.2.2.2.2.2.2.2.2.1, U2.fo, U2.rise⟩ ⟨si2, g _ _ hsi2 nd.2.2.2.2.2.2.2.2.2.2.2.2.2.1⟩ (g _ _ S2.hwe nd.2.2.2.2.2.2.2.2.2.2.2.2.2.2) ⟨_, he_1 _ _ hp_2, (hW.stay tt).snoc (he_1 _ _ (hf _ _ hp_1 (ne_of hp_1 (he _ _ hds) (by intro z; cases z))))⟩ (g _ _ S2.hord S.apo) S.ap S.apo (.known S.hist ho hp heq) (by simp; omega) S.fewn S.t0) ?_
      · simp only [SkA.mut, List.mem_cons, List.not_mem_nil, or_false, not_or] at n
        exact g _ _ (F02 _ _ h (by simpa using n.1)) n.2.2.2.2.2
      · rw [if_pos el, ← hT.1]; exact hp_3
    · walk_at "jrd"
      -- who comes under whom
      have fin : ∀ (H3 : Hp) (c hh : Str) (far' : Int) (si' : Str → Int), FrM [a.ab, a.ri, a.si] H2 H3 → H3 a.ab = some (.dK (dmap ns fun n => .str (sf k.ab c hh n))) → H3 a.ri = some (.dK (dmap ns fun n => .int (sf ri2 c far' n))) → H3 a.si = some (.dK (dmap ns fun n => .int (si' n))) →
          (c = k.rt p ∧ hh = k.rt o ∨ c = k.rt o ∧ hh = k.rt p) → (far' - (sp c - sp hh)) % turn = 0 → ∀ (H4 : Hp) (t4 : Addr), Same H3 H4 → H4 t4 = some (.tup [.str "join", .str o, .str p, .int st, .str c]) → ∀ H5, Fr1 a.ds H4 H5 → H5 a.ds = some (.lst (ws ++ [.ref t4])) → ∀ (H6 : Hp) (t6 : Addr), Same H5 H6 → H6 t6 = some (.tup [.str "joined", .int (vs'.length : Nat)]) → Q (.ref t6) H6 := by
        intro H3 c hh far' si' f3 h3a h3r h3s hch hfar H4 t4 e4 h4 H5 f5 h5 H6 t6 e6 h6
        have hcc : k.ab c = c := by rcases hch with ⟨z, _⟩ | ⟨z, _⟩ <;> (rw [z]; exact U2.fo.top _)
        have n5 : a.ab ≠ a.ds := nd.2.2.2.2.2.2.2.2.1
        have g36 : ∀ b o, H3 b = some o → b ≠ a.ds → H6 b = some o := fun b o h n => e6 _ _ (f5 _ _ (e4 _ _ h) n)
        have g26 : ∀ b o, H2 b = some o → b ≠ a.ab → b ≠ a.ri → b ≠ a.si → b ≠ a.ds → H6 b = some o := fun b o h n1 n2 n3 n4 => g36 _ _ (f3 _ _ h (by simp [n1, n2, n3])) n4
        have tt : TupS H2 H6 := fun t xs h => g26 _ _ h (ne_of h U2.hab (by intro z; cases z)) (ne_of h U2.hri (by intro z; cases z)) (ne_of h hsi2 (by intro z; cases z)) (ne_of h hds (by intro z; cases z))
        have nl : ¬ labR (joinsOf ds) o = labR (joinsOf ds) p := fun z => hne ((S.hist.lab o p).mpr z)
        have hh' := Hist.joined (st := st) S.hist ho hp hne hch
        have h3ds : H3 a.ds = some (.lst ws) := f3 _ _ hds (by simp only [List.mem_cons, List.not_mem_nil, or_false, not_or]; exact ⟨n5.symm, nd.2.2.2.2.2.2.2.2.2.2.2.1.symm, nd.2.2.2.2.2.2.2.2.2.2.2.2.2.1.symm⟩)
        refine q t6 H6 _ (some c) (fun b o h n => ?_) (StackAt.mk ⟨sf ri2 c far', ⟨fs2, { I2 with h := g26 _ _ I2.h nd.1 nd.2.1 nd.2.2.1 nd.2.2.2.2.1 }⟩, g36 _ _ h3a n5, g36 _ _ h3r nd.2.2.2.2.2.2.2.2.2.2.2.1, hh'.forest, fun n hn hne' => ?_⟩ ⟨si', g36 _ _ h3s nd.2.2.2.2.2.2.2.2.2.2.2.2.2.1⟩
          (g26 _ _ S2.hwe nd.2.2.2.2.2.2.2.1.symm nd.2.2.2.2.2.2.2.2.2.2.1.symm nd.2.2.2.2.2.2.2.2.2.2.2.2.1.symm nd.2.2.2.2.2.2.2.2.2.2.2.2.2.2)
          ⟨_, e6 _ _ h5, (hW.stay tt).snoc (e6 _ _ (f5 _ _ h4 (ne_of h4 (e4 _ _ h3ds) (by intro z; cases z))))⟩
          (g26 _ _ S2.hord (ne_of S2.hord U2.hab (by intro z; cases z)) (ne_of S2.hord U2.hri (by intro z; cases z)) (ne_of S2.hord hsi2 (by intro z; cases z)) S.apo) S.ap S.apo hh' (by simp; omega) S.fewn S.t0) ?_
        · simp only [SkA.mut, List.mem_cons, List.not_mem_nil, or_false, not_or] at n
          exact g26 _ _ (F02 _ _ h (by simpa using n.1)) n.2.1 n.2.2.1 n.2.2.2.1 n.2.2.2.2.2
        · have hne' : sf k.ab c hh n ≠ n := hne'
          show (sf ri2 c far' n - (sp n - sp (sf k.ab c hh n))) % turn = 0
          by_cases z : n = c
          · subst z; rw [sf_same, sf_same]; exact hfar
          · rw [sf_ne _ _ z, sf_ne _ _ z] at *
            exact U2.rise n hn hne'
        · rw [if_neg nl, ← hT.1]; exact h6
      have nx : ¬ x ∈ [a.ab, a.ri, a.si] := by simp only [List.mem_cons, List.not_mem_nil, or_false, not_or]; exact ⟨nd.1, nd.2.1, nd.2.2.1⟩
      have nds : ¬ a.ds ∈ [a.ab, a.ri, a.si] := by simp only [List.mem_cons, List.not_mem_nil, or_false, not_or]; exact ⟨nd.2.2.2.2.2.2.2.2.1.symm, nd.2.2.2.2.2.2.2.2.2.2.2.1.symm, nd.2.2.2.2.2.2.2.2.2.2.2.2.2.1.symm⟩
      refine ite_of (fun hs => ?_) (fun hs => ?_)
      · walk_at "jrd"
        refine ⟨x, k.rt p, k.rt o, _, ns, turn, a, fs2, k.ab, ri2, si2, rfl, I2, U2.hab, U2.hri, hsi2, hrp, hro, S.ap, by have := S.fewn; omega, fun H3 si' f3 h3a h3r h3s => ?_⟩
        walk_at "jrd"
        refine fin H3 (k.rt o) (k.rt p) _ si' f3 h3a h3r h3s (.inr ⟨rfl, rfl⟩) ?_ _ _ he hp_1 _ hf hp_2 _ _ he_1 hp_3
        have q1 := mod_sub (mod_sub hc2 hc1) hst
        have e : wide - (sp p - sp (k.rt p)) - (far - (sp o - sp (k.rt o))) - (st - (sp p - sp o)) = wide - far - st - (sp (k.rt o) - sp (k.rt p)) := by omega
        rwa [e] at q1
      · walk_at "jrd"
        refine ⟨x, k.rt o, k.rt p, _, ns, turn, a, fs2, k.ab, ri2, si2, rfl, I2, U2.hab, U2.hri, hsi2, hro, hrp, S.ap, by have := S.fewn; omega, fun H3 si' f3 h3a h3r h3s => ?_⟩
        walk_at "jrd"
        refine fin H3 (k.rt p) (k.rt o) _ si' f3 h3a h3r h3s (.inl ⟨rfl, rfl⟩) ?_ _ _ he hp_1 _ hf hp_2 _ _ he_1 hp_3
        have q1 := mod_add (mod_sub hc1 hc2) hst
        have e : far - (sp o - sp (k.rt o)) - (wide - (sp p - sp (k.rt p))) + (st - (sp p - sp o)) = far + st - wide - (sp (k.rt p) - sp (k.rt o)) := by omega
        rwa [e] at q1
end
section
variable {P : Program} {w : World} {K : PySem.W.Frag} {mg : Str → Option Value} {base : Heap}
theorem perm_sum {a b : List Int} (h : a.Perm b) : a.sum = b.sum := by
  induction h with
  | nil => rfl
  | cons x _ ih => rw [List.sum_cons, List.sum_cons, ih]
  | swap x y l => simp only [List.sum_cons]; omega
  | trans _ _ i j => exact i.trans j
def sp_stk_weigh (K : PySem.W.Frag) : Sp := fun vs H Q _ => ∃ (x : Addr) (n : Str) (v : Int) (ns : List Str) (sp : Str → Int) (turn : Int) (a : SkA) (ds : List (Deed Str)) (k : Sk Str), vs = [.ref x, .str n, .int v] ∧ StackAt K H x ns sp turn a ds k ∧ n ∈ ns ∧ ds.length < 1000 ∧
  ∀ (H' : Hp) (k' : Sk Str), FrM (a.mut x) H H' → StackAt K H' x ns sp turn a (ds ++ [.weigh n v (k.we n)]) k' → Q .non H'
abbrev N_Stack_weigh : List Str := ["self", "name", "n"]
theorem sc_Stack_weigh : FnScope N_Stack_weigh ["self", "name", "n"] (defScope s_Stack_weigh) := ⟨rfl, rfl, rfl, by decide +kernel, rfl, by decide +kernel, by decide +kernel⟩
theorem ok_Stack_weigh (T : Txt w K mg) : OkF P w K mg base 2 (mA K "Stack" "weigh") ["self", "name", "n"] (sp_stk_weigh K) := by
  obtain ⟨fd_Stack_look_names_there, c_Stack_look_names_there⟩ := ok_Stack_look_names_there (P := P) (base := base) T
  have cl_Stack := Tc_Stack T
  have na_Stack_done_deeds := Tn_Stack_done_deeds T
  have na_Stack_weights := Tn_Stack_weights T
  refine okF (Td_Stack_weigh T) sc_Stack_weigh (fun _ _ _ _ _ _ us hl => match us, hl with | [_, _, _], _ => rfl) (fun vs H Q E h => ?_) (fun cdv A outer s H vs Q E hr h => have hu := hu_of hr; ⟨_, (pss_cons (ps_expr (pe_meth (pv 0) (Tc_Stack T) (Tm_Stack_look_names_there T) c_Stack_look_names_there.1 (hr.mono (by decide)) c_Stack_look_names_there.2.1 .nil pass0 (pa_cons (pe_lst (pa_cons (pv 1) pa_nil)) pa_nil)))
      (pss_cons (ps_expr (pe_bm PySem.F.plainAttrs_list PySem.F.slot_list_append PySem.F.type_list_append mt_append (pe_fldK K (pv 0) rfl) (pa_cons (pe_tup (pa_cons pe_str (pa_cons (pv 1) (pa_cons (pv 2) (pa_cons (pe_dget hu (pe_fldK K (pv 0) rfl) (pv 1) (fun _ _ => rfl)) pa_nil))))) pa_nil)))
      (pss_one (ps_dput hu (pe_fldK K (pv 0) rfl) (pv 1) (pv 2) rfl)))), ?_⟩)
  · obtain ⟨x, n, v, ns, sp, turn, a, ds, k, rfl, _⟩ := h
    rfl
  · obtain ⟨x, n, v, ns, sp, turn, a, ds, k, rfl, S, hn, hlt, q⟩ := h
    obtain ⟨ri, U⟩ := S.up
    obtain ⟨fs, I⟩ := U.ins
    obtain ⟨si, hsi⟩ := S.hsi
    obtain ⟨ws, hds, hW⟩ := S.hds
    have i1 := I.h; have i2 := I.nm; have i3 := I.we; have i4 := I.ds; have i5 := I.ab
    have ewl : ws.length = ds.length := hW.1
    have hwe := S.hwe
    have nd := nd_ne S.ap
    have hns : ns.length ≤ 1000 := by have := S.fewn; omega
    walk_at "jrd"
    refine ⟨x, _, a.dx, fs, a.ab, ns, [n], _, rfl, he _ _ i1, I.ab, he _ _ U.hab, hp, by simp [hn], ?_⟩
    walk_at "jrd"
    rw [setF_int] at hp_3
    have g : ∀ b o, H b = some o → b ≠ a.ds → b ≠ a.we → H'_3 b = some o := fun b o h n1 n2 => hf_1 _ _ (hf _ _ (he_1 _ _ (he _ _ h)) n1) n2
    have tt : TupS H H'_3 := fun t xs h => g _ _ h (ne_of h hds (by intro z; cases z)) (ne_of h hwe (by intro z; cases z))
    have h1 : H'_3 p_1 = _ := hf_1 _ _ (hf _ _ hp_1 (ne_of hp_1 (he_1 _ _ (he _ _ hds)) (by intro z; cases z))) (ne_of (hf _ _ hp_1 (ne_of hp_1 (he_1 _ _ (he _ _ hds)) (by intro z; cases z))) (hf _ _ (he_1 _ _ (he _ _ hwe)) nd.2.2.2.2.2.2.2.2.2.2.2.2.2.2) (by intro z; cases z))
    refine q H'_3 { k with we := sf k.we n v } (fun b o h n => ?_) (StackAt.mk ⟨ri, ⟨fs, { I with h := g _ _ I.h nd.2.2.2.2.1 nd.2.2.2.1 }⟩, g _ _ U.hab nd.2.2.2.2.2.2.2.2.1 nd.2.2.2.2.2.2.2.1, g _ _ U.hri nd.2.2.2.2.2.2.2.2.2.2.2.1 nd.2.2.2.2.2.2.2.2.2.2.1, ⟨U.fo.root, U.fo.up, U.fo.top, U.fo.abn, U.fo.rtn⟩, U.rise⟩ ⟨si, g _ _ hsi nd.2.2.2.2.2.2.2.2.2.2.2.2.2.1 nd.2.2.2.2.2.2.2.2.2.2.2.2.1⟩ hp_3
      ⟨_, hf_1 _ _ hp_2 nd.2.2.2.2.2.2.2.2.2.2.2.2.2.2.symm, (hW.stay tt).snoc h1⟩ (g _ _ S.hord S.apo (ne_of S.hord hwe (by intro z; cases z))) S.ap S.apo (.weigh S.hist hn) (by simp; omega) S.fewn S.t0)
    simp only [SkA.mut, List.mem_cons, List.not_mem_nil, or_false, not_or] at n
    exact g _ _ h n.2.2.2.2.2 n.2.2.2.2.1
abbrev N_Stack_deeds : List Str := ["self", "deed"]
theorem sc_Stack_deeds : FnScope N_Stack_deeds ["self"] (defScope s_Stack_deeds) := ⟨rfl, rfl, rfl, by decide +kernel, rfl, by decide +kernel, by decide +kernel⟩
theorem ok_Stack_deeds (T : Txt w K mg) : OkF P w K mg base 1 (mA K "Stack" "deeds") ["self"] (fun vs H Q _ => ∃ (x : Addr) (ns : List Str) (sp : Str → Int) (turn : Int) (a : SkA) (ds : List (Deed Str)) (k : Sk Str), vs = [.ref x] ∧ StackAt K H x ns sp turn a ds k ∧ ∀ p vs' H', Same H H' → H p = none → H' p = some (.lst vs') → Tups H' encD4 vs' ds → Q (.ref p) H') := by
  have cl_Stack := Tc_Stack T
  have na_Stack_done_deeds := Tn_Stack_done_deeds T
  refine okF (Td_Stack_deeds T) sc_Stack_deeds (fun _ _ _ _ _ _ us hl => match us, hl with | [_], _ => rfl) (fun vs H Q E h => ?_) (fun cdv A outer s H vs Q E hr h => have hu := hu_of hr; ⟨_, (pss_one (ps_ret (pe_lc (own := [("deed", 1)]) (tt := tYes) rfl sc_Stack_deeds.nd (pi_list (pe_fldK K (pv 0) rfl)) (blkOk_by (N := N_Stack_deeds) (sc := defScope s_Stack_deeds) (by decide +kernel)) (fun _ _ _ _ _ => (pg_name (i := 1) sc_Stack_deeds.nd rfl (by first | exact Or.inl rfl | exact Or.inr rfl))) (fun _ _ _ _ _ => pts_nil) (fun _ _ _ _ _ => (pe_ifExp (pt_cmpR op_eq (pe_ix (ix_tupK K) (pv 1) pe_int (fun _ _ => rfl)) pe_str (nomark _)) (pe_slice (sl_tupK K) (pv 1) po_none (po_some pe_int)) (pe_slice (sl_tupK K) (pv 1) po_none (po_some pe_int))))))), ?_⟩)
  · obtain ⟨x, ns, sp, turn, a, ds, k, rfl, _⟩ := h
    rfl
  · obtain ⟨x, ns, sp, turn, a, ds, k, rfl, S, q⟩ := h
    obtain ⟨ri, U⟩ := S.up
    obtain ⟨fs, I⟩ := U.ins
    have i1 := I.h; have i2 := I.ds
    obtain ⟨ws, hds, ht⟩ := S.hds
    walk_at "jrd"
    refine lc_M [] walk_list (fun H' f => SqL.of (frM_nil f _ _ hds)) (by have := ht.1; have := S.few; omega) (by simp) (fun i acc H' => Tups H' encD4 acc (ds.take i)) Tups.nil (fun i acc H1 H2 p t m => p.stay t) ?_ ?_
    · rintro i y acc H1 H1' KY KN hi p1 f1 ⟨rfl, hy⟩ hacc hY hN
      obtain ⟨d, t, hd, rfl, htd⟩ := (ht.stay (Same.tups (frM_nil f1))).2 i y hy
      have et : ds.take (i + 1) = ds.take i ++ [d] := take_more hd
      cases d with
      | join o p s c =>
        unfold encD at htd
        walk_at "jrd"
        refine ⟨rfl, ?_⟩
        walk_at "jrd"
        refine ite_T rfl ?_
        walk_at "jrd"
        refine ite_F (by decide) ?_
        walk_at "jrd"
        refine hY _ _ (Same.frM he) ?_
        rw [et]
        exact (p1.stay (Same.tups he)).snoc hp
      | weigh n v old =>
        unfold encD at htd
        walk_at "jrd"
        refine ⟨rfl, ?_⟩
        walk_at "jrd"
        refine ite_T rfl ?_
        walk_at "jrd"
        refine ite_T (by decide) ?_
        walk_at "jrd"
        refine hY _ _ (Same.frM he) ?_
        rw [et]
        exact (p1.stay (Same.tups he)).snoc hp
    · rintro acc D H' hD f hp p _
      refine q D acc H' (frM_nil f) hD hp ?_
      rw [List.take_of_length_le (by rw [ht.1]; exact Nat.le_refl _)] at p
      exact p
abbrev N_Stack_class_of : List Str := ["self", "name", "head", "other"]
theorem sc_Stack_class_of : FnScope N_Stack_class_of ["self", "name"] (defScope s_Stack_class_of) := ⟨rfl, rfl, rfl, by decide +kernel, rfl, by decide +kernel, by decide +kernel⟩
theorem ok_Stack_class_of (T : Txt w K mg) : OkF P w K mg base 3 (mA K "Stack" "class_of") ["self", "name"] (fun vs H Q _ => ∃ (x : Addr) (n : Str) (ns : List Str) (sp : Str → Int) (turn : Int) (a : SkA) (ds : List (Deed Str)) (k : Sk Str), vs = [.ref x, .str n] ∧ StackAt K H x ns sp turn a ds k ∧ n ∈ ns ∧ ∀ (p : Addr) (ys : List Str) (H' : Hp), Same H H' → H' p = some (.lst (ys.map V.str)) → ys.Perm (ns.filter fun m => k.rt m = k.rt n) → Q (.ref p) H') := by
  obtain ⟨fd_Stack_look_names_there, c_Stack_look_names_there⟩ := ok_Stack_look_names_there (P := P) (base := base) T
  obtain ⟨fd_Stack_head_of, c_Stack_head_of⟩ := ok_Stack_head_of (P := P) (base := base) T
  have cl_Stack := Tc_Stack T
  have na_Stack_order := Tn_Stack_order T
  refine okF (Td_Stack_class_of T) sc_Stack_class_of (fun _ _ _ _ _ _ us hl => match us, hl with | [_, _], _ => rfl) (fun vs H Q E h => ?_) (fun cdv A outer s H vs Q E hr h => have hu := hu_of hr; ⟨_, (pss_cons (ps_expr (pe_meth (pv 0) (Tc_Stack T) (Tm_Stack_look_names_there T) c_Stack_look_names_there.1 (hr.mono (by decide)) c_Stack_look_names_there.2.1 .nil pass0 (pa_cons (pe_lst (pa_cons (pv 1) pa_nil)) pa_nil)))
      (pss_cons (ps_set (i := 2) sc_Stack_class_of.nd rfl (by first | exact Or.inl rfl | exact Or.inr rfl) (pe_meth (pv 0) (Tc_Stack T) (Tm_Stack_head_of T) c_Stack_head_of.1 (hr.mono (by decide)) c_Stack_head_of.2.1 .nil pass0 (pa_cons (pv 1) pa_nil)))
      (pss_one (ps_ret (pe_callB cr_sortedS (by rfl) (Tf_sorted T) (by decide +kernel) (pa_cons (pe_lc (own := [("other", 3)]) rfl sc_Stack_class_of.nd (pi_list (pe_fldK K (pv 0) rfl)) (blkOk_by (N := N_Stack_class_of) (sc := defScope s_Stack_class_of) (by decide +kernel)) (fun _ _ _ _ _ => (pg_name (i := 3) sc_Stack_class_of.nd rfl (by first | exact Or.inl rfl | exact Or.inr rfl))) (fun _ _ _ _ _ => (pts_one (pt_cmpR op_eq (pe_meth (pv 0) (Tc_Stack T) (Tm_Stack_head_of T) c_Stack_head_of.1 (hr.mono (by decide)) c_Stack_head_of.2.1 .nil pass0 (pa_cons (pv 3) pa_nil)) (pv 2) (nomark _)))) (fun _ _ _ _ _ => (pv 3))) pa_nil)))))), ?_⟩)
  · obtain ⟨x, n, ns, sp, turn, a, ds, k, rfl, _⟩ := h
    rfl
  · obtain ⟨x, n, ns, sp, turn, a, ds, k, rfl, S, hn, q⟩ := h
    obtain ⟨ri, U⟩ := S.up
    obtain ⟨fs, I⟩ := U.ins
    have i1 := I.h; have i2 := I.nm; have i3 := I.ord
    have hord := S.hord
    walk_at "jrd"
    refine ⟨x, _, a.dx, fs, a.ab, ns, [n], _, rfl, he _ _ i1, I.ab, he _ _ U.hab, hp, by simp [hn], ?_⟩
    walk_at "jrd"
    refine ⟨x, n, ns, sp, turn, a, ds, k, rfl, S.same he, hn, fun H2 e2 => ?_⟩
    walk_at "jrd"
    have e02 : Same H H2 := he.trans e2
    refine lc_M [] walk_list (fun H' f => SqL.of (frM_nil f _ _ (e02 _ _ hord))) (by have := S.fewn; simp; omega) (by simp) (fun i acc H' => acc = ((ns.take i).filter fun m => k.rt m = k.rt n).map V.str) rfl (fun i acc H1 H2 p t m => p) ?_ ?_
    · rintro i y acc H3 H3' KY KN hi rfl f1 ⟨rfl, hy⟩ hacc hY hN
      rw [List.getElem?_map, Option.map_eq_some_iff] at hy
      obtain ⟨m, hm, rfl⟩ := hy
      have hmn : m ∈ ns := List.mem_of_getElem? hm
      have S3 := S.same (e02.trans (frM_nil f1))
      obtain ⟨ri3, U3⟩ := S3.up
      obtain ⟨fs3, I3⟩ := U3.ins
      clear i1 i2 i3
      have j1 := I3.h; have j2 := I3.nm
      walk_at "jrd"
      refine ⟨rfl, ?_⟩
      walk_at "jrd"
      refine ⟨x, m, ns, sp, turn, a, ds, k, rfl, S3, hmn, fun H4 e4 => ?_⟩
      walk_at "jrd"
      rw [take_more hm, List.filter_append, List.map_append] at hY hN
      refine ite_of (fun z => ?_) (fun z => ?_)
      · walk_at "jrd"
        exact hY _ _ (Same.frM e4) (by simp [z])
      · exact hN _ (Same.frM e4) (by simp [z])
    · rintro acc D H' hD f hp rfl _
      rw [List.length_map, List.take_length] at hp
      have hz : (ns.filter fun m => k.rt m = k.rt n).length < 64 := Nat.lt_of_le_of_lt (List.length_filter_le _ _) S.fewn
      walk_at "jrd"
      exact q _ _ _ ((e02.trans (frM_nil f)).trans he_1) hp_1 hy
abbrev N_Stack_sum_of : List Str := ["self", "name", "other"]
theorem sc_Stack_sum_of : FnScope N_Stack_sum_of ["self", "name"] (defScope s_Stack_sum_of) := ⟨rfl, rfl, rfl, by decide +kernel, rfl, by decide +kernel, by decide +kernel⟩
theorem ok_Stack_sum_of (T : Txt w K mg) : OkF P w K mg base 4 (mA K "Stack" "sum_of") ["self", "name"] (fun vs H Q _ => ∃ (x : Addr) (n : Str) (ns : List Str) (sp : Str → Int) (turn : Int) (a : SkA) (ds : List (Deed Str)) (k : Sk Str), vs = [.ref x, .str n] ∧ StackAt K H x ns sp turn a ds k ∧ n ∈ ns ∧ ∀ H', Same H H' → Q (.int ((ns.filter fun m => k.rt m = k.rt n).map k.we).sum) H') := by
  obtain ⟨fd_Stack_class_of, c_Stack_class_of⟩ := ok_Stack_class_of (P := P) (base := base) T
  have cl_Stack := Tc_Stack T
  have na_Stack_weights := Tn_Stack_weights T
  refine okF (Td_Stack_sum_of T) sc_Stack_sum_of (fun _ _ _ _ _ _ us hl => match us, hl with | [_, _], _ => rfl) (fun vs H Q E h => ?_) (fun cdv A outer s H vs Q E hr h => have hu := hu_of hr; ⟨_, (pss_one (ps_ret (pe_callB (cr_sum rfl) (by rfl) (Tf_sum T) (by decide +kernel) (pa_cons (pe_lc (own := [("other", 2)]) (tt := tYes) rfl sc_Stack_sum_of.nd (pi_list (pe_meth (pv 0) (Tc_Stack T) (Tm_Stack_class_of T) c_Stack_class_of.1 (hr.mono (by decide)) c_Stack_class_of.2.1 .nil pass0 (pa_cons (pv 1) pa_nil))) (blkOk_by (N := N_Stack_sum_of) (sc := defScope s_Stack_sum_of) (by decide +kernel)) (fun _ _ _ _ _ => (pg_name (i := 2) sc_Stack_sum_of.nd rfl (by first | exact Or.inl rfl | exact Or.inr rfl))) (fun _ _ _ _ _ => pts_nil) (fun _ _ _ _ _ => (pe_dget hu (pe_fldK K (pv 0) rfl) (pv 2) (fun _ _ => rfl)))) pa_nil)))), ?_⟩)
  · obtain ⟨x, n, ns, sp, turn, a, ds, k, rfl, _⟩ := h
    rfl
  · obtain ⟨x, n, ns, sp, turn, a, ds, k, rfl, S, hn, q⟩ := h
    obtain ⟨ri, U⟩ := S.up
    obtain ⟨fs, I⟩ := U.ins
    have i1 := I.h; have i2 := I.nm; have i3 := I.we
    have hwe := S.hwe
    walk_at "jrd"
    refine ⟨x, n, ns, sp, turn, a, ds, k, rfl, S, hn, fun p ys H1 e1 h1 hp => ?_⟩
    walk_at "jrd"
    have hlen : ys.length < 64 := by rw [hp.length_eq]; exact Nat.lt_of_le_of_lt (List.length_filter_le _ _) S.fewn
    refine lc_M [] walk_list (fun H' f => SqL.of (frM_nil f _ _ h1)) (by simp; omega) (by simp) (fun i acc H' => acc = ((ys.take i).map k.we).map V.int) rfl (fun i acc H1 H2 p t m => p) ?_ ?_
    · rintro i y acc H3 H3' KY KN hi rfl f1 ⟨rfl, hy⟩ hacc hY hN
      rw [List.getElem?_map, Option.map_eq_some_iff] at hy
      obtain ⟨m, hm, rfl⟩ := hy
      have hmn : m ∈ ns := (List.mem_filter.mp (hp.mem_iff.mp (List.mem_of_getElem? hm))).1
      have f1' := frM_nil f1
      walk_at "jrd"
      refine ⟨rfl, ?_⟩
      walk_at "jrd"
      refine ite_T rfl ?_
      walk_at "jrd"
      exact hY _ _ (FrM.refl _ _) (by rw [take_more hm]; simp)
    · rintro acc D H' hD f hp' rfl _
      rw [List.length_map, List.take_length] at hp'
      walk_at "jrd"
      rw [perm_sum (hp.map k.we)]
      exact q _ (e1.trans (frM_nil f))
def sp_stk_back (K : PySem.W.Frag) : Sp := fun vs H Q _ => ∃ (x : Addr) (ns : List Str) (sp : Str → Int) (turn : Int) (a : SkA) (ds : List (Deed Str)) (k : Sk Str), vs = [.ref x] ∧ StackAt K H x ns sp turn a ds k ∧
  (ds = [] → Q .non H) ∧ ∀ (ds' : List (Deed Str)) (d : Deed Str), ds = ds' ++ [d] → ∀ (q : Addr) (H' : Hp) (k' : Sk Str), FrM (a.mut x) H H' → StackAt K H' x ns sp turn a ds' k' → H' q = some (.tup (encD4 d)) → Q (.ref q) H'
abbrev N_Stack_back : List Str := ["self", "deed", "child"]
theorem sc_Stack_back : FnScope N_Stack_back ["self"] (defScope s_Stack_back) := ⟨rfl, rfl, rfl, by decide +kernel, rfl, by decide +kernel, by decide +kernel⟩
theorem ok_Stack_back (T : Txt w K mg) : OkF P w K mg base 1 (mA K "Stack" "back") ["self"] (sp_stk_back K) := by
  have cl_Stack := Tc_Stack T
  have na_Stack_above := Tn_Stack_above T
  have na_Stack_done_deeds := Tn_Stack_done_deeds T
  have na_Stack_rise := Tn_Stack_rise T
  have na_Stack_sizes := Tn_Stack_sizes T
  have na_Stack_weights := Tn_Stack_weights T
  refine okF (Td_Stack_back T) sc_Stack_back (fun _ _ _ _ _ _ us hl => match us, hl with | [_], _ => rfl) (fun vs H Q E h => ?_) (fun cdv A outer s H vs Q E hr h => have hu := hu_of hr; ⟨_, (pss_cons (ps_if (pt_cmpR op_eq (pe_callB (call_lenJ K) (by rfl) (Tf_len T) (by decide +kernel) (pa_cons (pe_fldK K (pv 0) rfl) pa_nil)) pe_int (nomark _)) (pss_one (ps_ret pe_non)) pss_nil)
      (pss_cons (ps_set (i := 1) sc_Stack_back.nd rfl (by first | exact Or.inl rfl | exact Or.inr rfl) (pe_bm0 PySem.F.plainAttrs_list PySem.F.slot_list_pop PySem.F.type_list_pop mt_pop (pe_fldK K (pv 0) rfl)))
      (pss_cons (ps_if (pt_cmpR op_eq (pe_ix (ix_tupK K) (pv 1) pe_int (fun _ _ => rfl)) pe_str (nomark _)) (pss_cons (ps_dput hu (pe_fldK K (pv 0) rfl) (pe_ix (ix_tupK K) (pv 1) pe_int (fun _ _ => rfl)) (pe_ix (ix_tupK K) (pv 1) pe_int (fun _ _ => rfl)) rfl)
      (pss_one (ps_ret (pe_slice (sl_tupK K) (pv 1) po_none (po_some pe_int))))) pss_nil)
      (pss_cons (ps_set (i := 2) sc_Stack_back.nd rfl (by first | exact Or.inl rfl | exact Or.inr rfl) (pe_ix (ix_tupK K) (pv 1) pe_int (fun _ _ => rfl)))
      (pss_cons (ps_if (pt_cmp (pc_notN (pv 2))) (pss_cons (ps_daug hu (pe_fldK K (pv 0) rfl) (pe_dget hu (pe_fldK K (pv 0) rfl) (pv 2) (fun _ _ => rfl)) (pe_dget hu (pe_fldK K (pv 0) rfl) (pv 2) (fun _ _ => rfl)) in_sub (fun _ _ _ => rfl))
      (pss_cons (ps_dput hu (pe_fldK K (pv 0) rfl) (pv 2) (pv 2) rfl)
      (pss_one (ps_dput hu (pe_fldK K (pv 0) rfl) (pv 2) pe_int rfl)))) pss_nil)
      (pss_one (ps_ret (pe_slice (sl_tupK K) (pv 1) po_none (po_some pe_int))))))))), ?_⟩)
  · obtain ⟨x, ns, sp, turn, a, ds, k, rfl, _⟩ := h
    rfl
  · obtain ⟨x, ns, sp, turn, a, ds, k, rfl, S, q0, q⟩ := h
    obtain ⟨ri, U⟩ := S.up
    obtain ⟨fs, I⟩ := U.ins
    obtain ⟨si, hsi⟩ := S.hsi
    obtain ⟨ws, hds, hW⟩ := S.hds
    have i1 := I.h; have i2 := I.nm; have i3 := I.we; have i4 := I.ds; have i5 := I.ab; have i6 := I.si; have i7 := I.ri
    have hwe := S.hwe
    have hab := U.hab
    have hri := U.hri
    have nd := nd_ne S.ap
    have hns : ns.length ≤ 1000 := by have := S.fewn; omega
    walk_at "jrd"
    refine ite_of (fun z => ?_) (fun z => ?_)
    · walk_at "jrd"
      refine q0 (List.length_eq_zero_iff.mp ?_)
      have := hW.1
      omega
    · have hne : ds ≠ [] := fun e => by have := hW.1; rw [e] at this; simp at this; rw [this] at z; exact z rfl
      obtain ⟨ds', d, rfl⟩ : ∃ l v, ds = l ++ [v] := ⟨ds.dropLast, ds.getLast hne, (List.dropLast_concat_getLast hne).symm⟩
      obtain ⟨ws', t, rfl, hW', ht⟩ := hW.unsnoc
      have q := q ds' d rfl
      have htd : ∀ (H' : Hp), Fr1 a.ds H H' → H' t = some (.tup (encD d)) := fun H' f => f _ _ ht (ne_of ht hds (by intro z; cases z))
      have hist := S.hist
      have few : ds'.length ≤ 1000 := by have := S.few; simp at this; omega
      cases d with
      | weigh n v old =>
        unfold encD at ht
        generalize hd0 : ds' ++ [Deed.weigh n v old] = dd at hist
        cases hist with
        | nil => exact absurd hd0 (by simp)
        | known _ _ _ _ => exact absurd (List.append_inj' hd0 rfl).2 (by simp)
        | joined _ _ _ _ _ => exact absurd (List.append_inj' hd0 rfl).2 (by simp)
        | @weigh ds1 k0 n1 v1 hist' hn' =>
          obtain ⟨e1, e2⟩ := List.append_inj' hd0 rfl
          have e3 : Deed.weigh n v old = Deed.weigh n1 v1 (k0.we n1) := by simpa using e2
          injection e3 with e3 e4 e5
          subst e1 e3 e4 e5
          walk_at "jrd"
          refine ite_T (by decide) ?_
          walk_at "jrd"
          rw [setF_int] at hp_1
          have hp3 : H'_1 a.we = some (.dK (dmap ns fun m => .int (k0.we m))) := by rw [hp_1]; rw [show sf (sf k0.we n v) n (k0.we n) = k0.we from sf_back _ _ _]
          have g : ∀ b o, H b = some o → b ≠ a.ds → b ≠ a.we → H'_2 b = some o := fun b o h n1 n2 => he _ _ (hf_1 _ _ (hf _ _ h n1) n2)
          have tt : TupS H H'_2 := fun t xs h => g _ _ h (ne_of h hds (by intro z; cases z)) (ne_of h hwe (by intro z; cases z))
          refine q p H'_2 k0 (fun b o h n => ?_) (StackAt.mk ⟨ri, ⟨fs, { I with h := g _ _ I.h nd.2.2.2.2.1 nd.2.2.2.1 }⟩, g _ _ U.hab nd.2.2.2.2.2.2.2.2.1 nd.2.2.2.2.2.2.2.1, g _ _ U.hri nd.2.2.2.2.2.2.2.2.2.2.2.1 nd.2.2.2.2.2.2.2.2.2.2.1, hist'.forest, U.rise⟩ ⟨si, g _ _ hsi nd.2.2.2.2.2.2.2.2.2.2.2.2.2.1 nd.2.2.2.2.2.2.2.2.2.2.2.2.1⟩ (he _ _ hp3)
            ⟨_, he _ _ (hf_1 _ _ hp nd.2.2.2.2.2.2.2.2.2.2.2.2.2.2.symm), hW'.stay tt⟩ (g _ _ S.hord S.apo (ne_of S.hord hwe (by intro z; cases z))) S.ap S.apo hist' few S.fewn S.t0) hp_2
          simp only [SkA.mut, List.mem_cons, List.not_mem_nil, or_false, not_or] at n
          exact g _ _ h n.2.2.2.2.2 n.2.2.2.2.1
      | join o p st c =>
        unfold encD at ht
        generalize hd0 : ds' ++ [Deed.join o p st c] = dd at hist
        cases hist with
        | nil => exact absurd hd0 (by simp)
        | weigh _ _ => exact absurd (List.append_inj' hd0 rfl).2 (by simp)
        | @known ds1 k0 o1 p1 st1 hist' ho hp he =>
          obtain ⟨e1, e2⟩ := List.append_inj' hd0 rfl
          have e3 : Deed.join o p st c = Deed.join o1 p1 st1 none := by simpa using e2
          injection e3 with e3 e4 e5 e6
          subst e1 e3 e4 e5 e6
          walk_at "jrd"
          refine ite_F (by decide) ?_
          walk_at "jrd"
          refine ite_F (by decide) ?_
          walk_at "jrd"
          have g : ∀ b o, H b = some o → b ≠ a.ds → H'_1 b = some o := fun b o h n => he_1 _ _ (hf _ _ h n)
          have tt : TupS H H'_1 := fun t xs h => g _ _ h (ne_of h hds (by intro z; cases z))
          refine q p_1 H'_1 _ (fun b o h n => ?_) (StackAt.mk ⟨ri, ⟨fs, { I with h := g _ _ I.h nd.2.2.2.2.1 }⟩, g _ _ U.hab nd.2.2.2.2.2.2.2.2.1, g _ _ U.hri nd.2.2.2.2.2.2.2.2.2.2.2.1, hist'.forest, U.rise⟩ ⟨si, g _ _ hsi nd.2.2.2.2.2.2.2.2.2.2.2.2.2.1⟩ (g _ _ hwe nd.2.2.2.2.2.2.2.2.2.2.2.2.2.2)
            ⟨_, he_1 _ _ hp_1, hW'.stay tt⟩ (g _ _ S.hord S.apo) S.ap S.apo hist' few S.fewn S.t0) hp_2
          simp only [SkA.mut, List.mem_cons, List.not_mem_nil, or_false, not_or] at n
          exact g _ _ h n.2.2.2.2.2
        | @joined ds1 k0 o1 p1 st1 c1 h1 hist' ho hp hne hc =>
          obtain ⟨e1, e2⟩ := List.append_inj' hd0 rfl
          have e3 : Deed.join o p st c = Deed.join o1 p1 st1 (some c1) := by simpa using e2
          injection e3 with e3 e4 e5 e6
          subst e1 e3 e4 e5 e6
          have hcn : c1 ∈ ns := by rcases hc with ⟨z, _⟩ | ⟨z, _⟩ <;> (rw [z]; exact hist'.forest.rtn _ (by assumption))
          have hhn : h1 ∈ ns := by rcases hc with ⟨_, z⟩ | ⟨_, z⟩ <;> (rw [z]; exact hist'.forest.rtn _ (by assumption))
          have hac : sf k0.ab c1 h1 c1 ∈ ns := by rw [sf_same]; exact hhn
          have m1 := nd.2.2.2.2.2.2.1
          have m2 := nd.2.2.2.2.2.2.2.2.2.1
          have m3 := nd.2.2.2.2.2.1
          walk_at "jrd"
          refine ite_F (by decide) ?_
          walk_at "jrd"
          refine ite_T (by simp) ?_
          walk_at "jrd"
          have hcc : k0.ab c1 = c1 := by rcases hc with ⟨z, _⟩ | ⟨z, _⟩ <;> (rw [z]; exact hist'.forest.top _)
          rw [setF_int] at hp_2 hp_4
          rw [setF_str] at hp_3
          have hab' : (fun n => V.str (sf (sf k0.ab c1 h1) c1 c1 n)) = fun n => V.str (k0.ab n) := by
            have := sf_back k0.ab c1 h1
            rw [hcc] at this
            rw [this]
          have hp3 : H'_2 a.ab = some (.dK (dmap ns fun n => .str (k0.ab n))) := by rw [hp_3]; rw [← hab']
          have g : ∀ b o, H b = some o → b ≠ a.ds → b ≠ a.si → b ≠ a.ab → b ≠ a.ri → H'_4 b = some o := fun b o h n1 n2 n3 n4 => he _ _ (hf_3 _ _ (hf_2 _ _ (hf_1 _ _ (hf _ _ h n1) n2) n3) n4)
          have tt : TupS H H'_4 := fun t xs h => g _ _ h (ne_of h hds (by intro z; cases z)) (ne_of h hsi (by intro z; cases z)) (ne_of h hab (by intro z; cases z)) (ne_of h hri (by intro z; cases z))
          obtain ⟨n01, n02, n03, n04, n05, n12, n13, n14, n15, n23, n24, n25, n34, n35, n45⟩ := nd
          refine q p_1 H'_4 k0 (fun b o h n => ?_) (StackAt.mk ⟨sf ri c1 0, ⟨fs, { I with h := g _ _ I.h n05 n03 n01 n02 }⟩, he _ _ (hf_3 _ _ hp3 n12), he _ _ hp_4, hist'.forest, fun n hn' hne' => ?_⟩ ⟨_, he _ _ (hf_3 _ _ (hf_2 _ _ hp_2 n13.symm) n23.symm)⟩ (g _ _ hwe n45 n34.symm n14.symm n24.symm)
            ⟨_, he _ _ (hf_3 _ _ (hf_2 _ _ (hf_1 _ _ hp_1 n35.symm) n15.symm) n25.symm), hW'.stay tt⟩ (g _ _ S.hord S.apo (ne_of S.hord hsi (by intro z; cases z)) (ne_of S.hord hab (by intro z; cases z)) (ne_of S.hord hri (by intro z; cases z))) S.ap S.apo hist' few S.fewn S.t0) hp_5
          · simp only [SkA.mut, List.mem_cons, List.not_mem_nil, or_false, not_or] at n
            exact g _ _ h n.2.2.2.2.2 n.2.2.2.1 n.2.1 n.2.2.1
          · have z : n ≠ c1 := fun z => hne' (by rw [z]; exact hcc)
            rw [sf_ne _ _ z]
            have r := U.rise n hn' (by show sf k0.ab c1 h1 n ≠ n; rw [sf_ne _ _ z]; exact hne')
            have e : ({ ab := sf k0.ab c1 h1, rt := fun n => if k0.rt n = c1 then h1 else k0.rt n, dp := fun n => if k0.rt n = c1 then k0.dp n + 1 else k0.dp n, we := k0.we } : Sk Str).ab n = k0.ab n := sf_ne _ _ z
            rw [e] at r
            exact r
end
section
variable {P : Program} {w : World} {K : PySem.W.Frag} {mg : Str → Option Value} {base : Heap}
def lettersS : Str := "abcdefghijklmnopqrstuvwxyz"
def IsNm (z : Str) : Prop := 1 ≤ z.length ∧ z.length ≤ 8 ∧ ∀ c ∈ z.cps.toList, c ∈ lettersS.cps.toList
abbrev N_is_name : List Str := ["thing", "sign"]
theorem sc_is_name : FnScope N_is_name ["thing"] (defScope s_is_name) := ⟨rfl, rfl, rfl, by decide +kernel, rfl, by decide +kernel, by decide +kernel⟩
theorem ok_is_name (T : Txt w K mg) : OkF P w K mg base 1 (gA K "is_name") ["thing"] (fun vs H Q _ => ∃ z, vs = [.str z] ∧ IsNm z ∧ ∀ H', Same H H' → Q (.bl true) H') := by
  obtain ⟨tk_LETTERS, hLETTERS⟩ := Ts_LETTERS T
  obtain ⟨tk_MOST_LETTERS, hMOST_LETTERS⟩ := Ti_MOST_LETTERS T
  refine okF (Td_is_name T) sc_is_name (fun _ _ _ _ _ _ us hl => match us, hl with | [_], _ => rfl) (fun vs H Q E h => ?_) (fun cdv A outer s H vs Q E hr h => have hu := hu_of hr; ⟨_, (pss_cons (ps_if (PW.pt (pw_or (pt_not (pt_val (pe_callB call_isi (by rfl) (Tf_isinstance T) (by decide +kernel) (pa_cons (pv 0) (pa_cons (pe_bltn (v := .ty "str") (by rfl) (Tf_str T) PyProof.Rows.boot_str rfl) pa_nil))))) (pw_or1 (pt_not (pt_chain op_le op_le pe_int (pe_callB call_lenSJ (by rfl) (Tf_len T) (by decide +kernel) (pa_cons (pv 0) pa_nil)) (pe_glob (v := .int 8) rfl hMOST_LETTERS ⟨_, rfl⟩)))))) (pss_one (ps_ret pe_bl)) pss_nil)
      (pss_one (ps_ret (pe_callB (cr_all rfl) (by rfl) (Tf_all T) (by decide +kernel) (pa_cons (pe_lc (own := [("sign", 1)]) (tt := tYes) rfl sc_is_name.nd (pi_str (pv 0)) (blkOk_by (N := N_is_name) (sc := defScope s_is_name) (by decide +kernel)) (fun _ _ _ _ _ => (pg_name (i := 1) sc_is_name.nd rfl (by first | exact Or.inl rfl | exact Or.inr rfl))) (fun _ _ _ _ _ => pts_nil) (fun _ _ _ _ _ => (pe_cmpR op_inSignJ (pv 1) (pe_glob (v := .str "abcdefghijklmnopqrstuvwxyz") rfl hLETTERS ⟨_, rfl⟩) (by rfl)))) pa_nil))))), ?_⟩)
  · obtain ⟨z, rfl, _⟩ := h
    rfl
  · obtain ⟨z, rfl, ⟨hz1, hz2, hz3⟩, q⟩ := h
    walk_at "jrd"
    refine ite_F rfl ?_
    walk_at "jrd"
    refine j_lenS (sz _ (by omega)) ?_
    walk_at "jrd"
    refine ite_T (decide_eq_true (by omega)) ?_
    walk_at "jrd"
    rw [decide_eq_true (by omega)]
    refine ite_F rfl ?_
    walk_at "jrd"
    refine lc_M [] walk_str (fun H' f => trivial) (by have : z.cps.size = z.length := rfl; omega) (by simp) (fun i acc H' => acc = List.replicate i (.bl true)) rfl (fun i acc H1 H2 p t m => p) ?_ ?_
    · rintro i y acc H3 H3' KY KN hi rfl f1 ⟨rfl, c, hc, rfl⟩ hacc hY hN
      walk_at "jrd"
      refine ⟨rfl, ?_⟩
      walk_at "jrd"
      refine ite_T rfl ?_
      walk_at "jrd"
      have hm : c ∈ lettersS.cps.toList := hz3 c (List.mem_of_getElem? (by rw [Array.getElem?_toList]; exact hc))
      refine hY _ _ (FrM.refl _ _) ?_
      rw [List.replicate_succ', show decide (c ∈ ("abcdefghijklmnopqrstuvwxyz" : Str).cps.toList) = true from decide_eq_true hm]
    · rintro acc D H' hD f hp rfl _
      refine j_all (bs := List.replicate z.cps.size true) (by rw [List.map_replicate]; exact hp) ?_
      have e : (List.replicate z.cps.size true).all id = true := by simp
      rw [e]
      exact q _ (frM_nil f)
abbrev N_look_names : List Str := ["names", "met", "place", "name"]
theorem sc_look_names : FnScope N_look_names ["names"] (defScope s_look_names) := ⟨rfl, rfl, rfl, by decide +kernel, rfl, by decide +kernel, by decide +kernel⟩
theorem ok_look_names (T : Txt w K mg) : OkF P w K mg base 2 (gA K "look_names_naming") ["names"] (fun vs H Q _ => ∃ (l : Addr) (ns : List Str), vs = [.ref l] ∧ H l = some (.lst (ns.map V.str)) ∧ ns.Nodup ∧ (∀ n ∈ ns, IsNm n) ∧ ns.length ≤ 1000 ∧ ∀ H', Same H H' → Q .non H') := by
  obtain ⟨fd_is_name, c_is_name⟩ := ok_is_name (P := P) (base := base) T
  refine okF (Td_look_names T) sc_look_names (fun _ _ _ _ _ _ us hl => match us, hl with | [_], _ => rfl) (fun vs H Q E h => ?_) (fun cdv A outer s H vs Q E hr h => have hu := hu_of hr; ⟨_, (pss_cons (ps_set (i := 1) sc_look_names.nd rfl (by first | exact Or.inl rfl | exact Or.inr rfl) pe_dnewK)
      (pss_one (ps_for PassesOwn.never rfl (pi_enum (by rfl) (Tf_enumerate T) (pa_cons (pv 0) pa_nil)) (pg_tupK K (n := 2) rfl (pgs_cons (pg_name (i := 2) sc_look_names.nd rfl (by first | exact Or.inl rfl | exact Or.inr rfl)) (pgs_cons (pg_name (i := 3) sc_look_names.nd rfl (by first | exact Or.inl rfl | exact Or.inr rfl)) pgs_nil)))
      (pss_cons (ps_if (PW.pt (pw_or (pt_not (pt_val (pe_call c_is_name.1 (hr.mono (by decide)) rfl (Tg_is_name T) c_is_name.2.2 c_is_name.2.1 .nil pass0 (pa_cons (pv 3) pa_nil)))) (pw_or1 (pt_cmp (pc_din hu (pv 3) (pv 1)))))) (pss_one ps_never) pss_nil)
      (pss_one (ps_dput hu (pv 1) (pv 3) pe_bl rfl)))))), ?_⟩)
  · obtain ⟨l, ns, rfl, _⟩ := h
    rfl
  · obtain ⟨l, ns, rfl, hl, nd, hn, hz, q⟩ := h
    walk_at "jrd"
    refine loop_walk walk_en (fun i σ H2 => Same H H2 ∧ (∃ v1 v2, σ = [some (.ref l), some (.ref p), v1, v2]) ∧ ∃ kvs, H2 p = some (.dK kvs) ∧ kvs.length ≤ i ∧ ∀ m, (valV kvs (Sum.inr m : Key)).isSome = true → m ∈ ns.take i) ⟨he, ⟨_, _, rfl⟩, [], hp, Nat.le_refl _, fun m hm => by cases hm⟩ (fun i σ H2 _ p => SqL.of (p.1 _ _ hl)) ?_ ?_
    · rintro i y σ H2 H2' hi ⟨e2, ⟨v1, v2, rfl⟩, kvs, hk, hkl, hks⟩ ⟨t, v, rfl, ht, eT, hT, hv⟩
      rw [List.getElem?_map, Option.map_eq_some_iff] at hv
      obtain ⟨n, hm, rfl⟩ := hv
      have hnn : n ∈ ns := List.mem_of_getElem? hm
      have hk' : H2' p = some (.dK kvs) := eT _ _ hk
      have e2' : Same H H2' := e2.trans eT
      clear eT
      walk_at "jrd"
      refine ⟨n, rfl, hn n hnn, fun H3 e3 => ?_⟩
      walk_at "jrd"
      refine ite_F rfl ?_
      walk_at "jrd"
      refine r_dinS (e3 _ _ hk') ?_
      have hnot : (valV kvs (Sum.inr n : Key)).isSome = false := by
        cases e : (valV kvs (Sum.inr n : Key)).isSome with
        | false => rfl
        | true =>
          have h1 := hks n e
          obtain ⟨j, hj, hje⟩ := List.mem_iff_getElem.mp h1
          rw [List.length_take] at hj
          have h2 : ns[j]? = some n := by rw [← hje, List.getElem_take]; exact List.getElem?_eq_getElem _
          have h3 := (List.getElem?_inj (by omega) nd).mp (h2.trans hm.symm)
          omega
      rw [hnot]
      walk_at "jrd"
      refine ite_F rfl ?_
      walk_at "jrd"
      refine r_dputS (e3 _ _ hk') (szlt _ (by rw [List.length_map] at hi; omega)) fun H4 f4 h4 => ?_
      have hnone : valV kvs (Sum.inr n : Key) = none := by cases e : valV kvs (Sum.inr n : Key) with | none => rfl | some v => rw [e] at hnot; cases hnot
      refine ⟨Same.mut (e2'.trans e3) hn_1 f4, ⟨_, _, rfl⟩, _, h4, by rw [putK_new _ hnone]; simp; exact hkl, fun m hm' => ?_⟩
      rw [valV_put] at hm'
      rw [take_more hm]
      by_cases z : (Sum.inr m : Key) = Sum.inr n
      · rw [Sum.inr.inj z]; simp
      · rw [if_neg z] at hm'
        exact List.mem_append_left _ (hks m hm')
    · rintro σ H2 ⟨e2, _⟩
      exact q H2 e2
end
section
variable {P : Program} {w : World} {K : PySem.W.Frag} {mg : Str → Option Value} {base : Heap}
def sp_stk_init (K : PySem.W.Frag) : Sp := fun vs H Q _ => ∃ (x l dx : Addr) (ns : List Str) (turn : Int), vs = [.ref x, .ref l, .int turn] ∧ H x = some (.ins (gA K "Stack") dx []) ∧ H l = some (.lst (ns.map V.str)) ∧ ns.Nodup ∧ (∀ n ∈ ns, IsNm n) ∧ ns.length < 64 ∧ 0 ≤ turn ∧
  ∀ (H' : Hp) (a : SkA), Fr1 x H H' → (∀ m, m ∈ a.mut x ∨ m = a.ord → m ≠ x → H m = none) → (∀ sp : Str → Int, StackAt K H' x ns sp turn a [] ⟨id, id, fun _ => 0, fun _ => 0⟩) → Q .non H'
abbrev N_Stack_init : List Str := ["self", "names", "turn", "place", "name"]
theorem sc_Stack_init : FnScope N_Stack_init ["self", "names", "turn"] (defScope s_Stack_init) := ⟨rfl, rfl, rfl, by decide +kernel, rfl, by decide +kernel, by decide +kernel⟩
theorem ok_Stack_init (T : Txt w K mg) : OkF P w K mg base 3 (mA K "Stack" "__init__") ["self", "names", "turn"] (sp_stk_init K) := by
  obtain ⟨fd_look_names, c_look_names⟩ := ok_look_names (P := P) (base := base) T
  have cl_Stack := Tc_Stack T
  have na_Stack_above := Tn_Stack_above T
  have na_Stack_done_deeds := Tn_Stack_done_deeds T
  have na_Stack_looked := Tn_Stack_looked T
  have na_Stack_order := Tn_Stack_order T
  have na_Stack_places := Tn_Stack_places T
  have na_Stack_rise := Tn_Stack_rise T
  have na_Stack_sizes := Tn_Stack_sizes T
  have na_Stack_turn := Tn_Stack_turn T
  have na_Stack_weights := Tn_Stack_weights T
  refine okF (Td_Stack_init T) sc_Stack_init (fun _ _ _ _ _ _ us hl => match us, hl with | [_, _, _], _ => rfl) (fun vs H Q E h => ?_) (fun cdv A outer s H vs Q E hr h => have hu := hu_of hr; ⟨_, (pss_cons (ps_expr (pe_call c_look_names.1 (hr.mono (by decide)) rfl (Tg_look_names_naming T) c_look_names.2.2 c_look_names.2.1 .nil pass0 (pa_cons (pv 1) pa_nil)))
      (pss_cons (ps_fld (pv 0) (pe_callTy (call_listJ K) (by rfl) (Tf_list T) (by decide +kernel) (pa_cons (pv 1) pa_nil)) rfl)
      (pss_cons (ps_fld (pv 0) (pe_callTy (call_dictJ K rfl) (by rfl) (Tf_dict T) (by decide +kernel) (pa_cons (pe_lc (own := [("place", 3), ("name", 4)]) (tt := tYes) rfl sc_Stack_init.nd (pi_enum (by rfl) (Tf_enumerate T) (pa_cons (pe_fldK K (pv 0) rfl) pa_nil)) (blkOk_by (N := N_Stack_init) (sc := defScope s_Stack_init) (by decide +kernel)) (fun _ _ _ _ _ => (pg_tupK K (n := 2) rfl (pgs_cons (pg_name (i := 3) sc_Stack_init.nd rfl (by first | exact Or.inl rfl | exact Or.inr rfl)) (pgs_cons (pg_name (i := 4) sc_Stack_init.nd rfl (by first | exact Or.inl rfl | exact Or.inr rfl)) pgs_nil)))) (fun _ _ _ _ _ => pts_nil) (fun _ _ _ _ _ => (pe_tup (pa_cons (pv 4) (pa_cons (pv 3) pa_nil))))) pa_nil)) rfl)
      (pss_cons (ps_fld (pv 0) (pv 2) rfl)
      (pss_cons (ps_fld (pv 0) (pe_callTy (call_dictJ K rfl) (by rfl) (Tf_dict T) (by decide +kernel) (pa_cons (pe_lc (own := [("name", 4)]) (tt := tYes) rfl sc_Stack_init.nd (pi_list (pe_fldK K (pv 0) rfl)) (blkOk_by (N := N_Stack_init) (sc := defScope s_Stack_init) (by decide +kernel)) (fun _ _ _ _ _ => (pg_name (i := 4) sc_Stack_init.nd rfl (by first | exact Or.inl rfl | exact Or.inr rfl))) (fun _ _ _ _ _ => pts_nil) (fun _ _ _ _ _ => (pe_tup (pa_cons (pv 4) (pa_cons (pv 4) pa_nil))))) pa_nil)) rfl)
      (pss_cons (ps_fld (pv 0) (pe_callTy (call_dictJ K rfl) (by rfl) (Tf_dict T) (by decide +kernel) (pa_cons (pe_lc (own := [("name", 4)]) (tt := tYes) rfl sc_Stack_init.nd (pi_list (pe_fldK K (pv 0) rfl)) (blkOk_by (N := N_Stack_init) (sc := defScope s_Stack_init) (by decide +kernel)) (fun _ _ _ _ _ => (pg_name (i := 4) sc_Stack_init.nd rfl (by first | exact Or.inl rfl | exact Or.inr rfl))) (fun _ _ _ _ _ => pts_nil) (fun _ _ _ _ _ => (pe_tup (pa_cons (pv 4) (pa_cons pe_int pa_nil))))) pa_nil)) rfl)
      (pss_cons (ps_fld (pv 0) (pe_callTy (call_dictJ K rfl) (by rfl) (Tf_dict T) (by decide +kernel) (pa_cons (pe_lc (own := [("name", 4)]) (tt := tYes) rfl sc_Stack_init.nd (pi_list (pe_fldK K (pv 0) rfl)) (blkOk_by (N := N_Stack_init) (sc := defScope s_Stack_init) (by decide +kernel)) (fun _ _ _ _ _ => (pg_name (i := 4) sc_Stack_init.nd rfl (by first | exact Or.inl rfl | exact Or.inr rfl))) (fun _ _ _ _ _ => pts_nil) (fun _ _ _ _ _ => (pe_tup (pa_cons (pv 4) (pa_cons pe_int pa_nil))))) pa_nil)) rfl)
      (pss_cons (ps_fld (pv 0) (pe_callTy (call_dictJ K rfl) (by rfl) (Tf_dict T) (by decide +kernel) (pa_cons (pe_lc (own := [("name", 4)]) (tt := tYes) rfl sc_Stack_init.nd (pi_list (pe_fldK K (pv 0) rfl)) (blkOk_by (N := N_Stack_init) (sc := defScope s_Stack_init) (by decide +kernel)) (fun _ _ _ _ _ => (pg_name (i := 4) sc_Stack_init.nd rfl (by first | exact Or.inl rfl | exact Or.inr rfl))) (fun _ _ _ _ _ => pts_nil) (fun _ _ _ _ _ => (pe_tup (pa_cons (pv 4) (pa_cons pe_int pa_nil))))) pa_nil)) rfl)
      (pss_cons (ps_fld (pv 0) (pe_lst pa_nil) rfl)
      (pss_one (ps_fld (pv 0) pe_int rfl))))))))))), ?_⟩)
  · obtain ⟨x, l, dx, ns, turn, rfl, _⟩ := h
    rfl
  · obtain ⟨x, l, dx, ns, turn, rfl, hx, hl, nd, hn, hz, h0, q⟩ := h
    walk_at "jrd"
    refine ⟨l, ns, rfl, hl, nd, hn, by omega, fun H1 e1 => ?_⟩
    walk_at "jrd"
    refine lc_M [] walk_en (fun H' f => SqL.of (frM_nil f _ _ (by walk_at "jhp"))) (by simp; omega) (by simp) (fun i acc H' => Tups H' (fun n : Str => [.str n, .int (posIn ns n : Nat)]) acc (ns.take i)) Tups.nil (fun i acc H1 H2 p t m => p.stay t) ?_ ?_
    · rintro i y acc H1 H1' KY KN hi p1 f1 ⟨t, v, rfl, ht, eT, hT, hv⟩ hacc hY hN
      rw [List.getElem?_map, Option.map_eq_some_iff] at hv
      obtain ⟨n, hm, rfl⟩ := hv
      walk_at "jrd"
      refine ⟨rfl, ?_⟩
      walk_at "jrd"
      refine ite_T rfl ?_
      walk_at "jrd"
      refine hY _ _ (Same.frM (eT.trans he_1)) ?_
      rw [take_more hm]
      have e : posIn ns n = i := posIn_get nd hm
      exact (p1.stay (Same.tups (eT.trans he_1))).snoc (by rw [e]; exact hp_2)
    · rintro acc D H2 hD f hp' t _
      have f2 := frM_nil f
      clear f
      rw [List.take_of_length_le (by simp)] at t
      walk_at "jrd"
      refine j_dictP hp' t nd fun pP H3 hn3 e3 hp3 => ?_
      walk_at "jrd"
      refine lc_dict (fun n => .str n) (by walk_at "jhp") nd (by omega) (fun n => ⟨rfl, rfl⟩) (fun n H' Q _ _ k => by walk_at "jrd"; exact k) fun pA HA nA eA hA => ?_
      walk_at "jrd"
      refine lc_dict (fun n => .int 0) (by walk_at "jhp") nd (by omega) (fun n => ⟨rfl, rfl⟩) (fun n H' Q _ _ k => by walk_at "jrd"; exact k) fun pB HB nB eB hB => ?_
      walk_at "jrd"
      refine lc_dict (fun n => .int 1) (by walk_at "jhp") nd (by omega) (fun n => ⟨rfl, rfl⟩) (fun n H' Q _ _ k => by walk_at "jrd"; exact k) fun pC HC nC eC hC => ?_
      walk_at "jrd"
      refine lc_dict (fun n => .int 0) (by walk_at "jhp") nd (by omega) (fun n => ⟨rfl, rfl⟩) (fun n H' Q _ _ k => by walk_at "jrd"; exact k) fun pG HG nG eG hG => ?_
      walk_at "jrd"
      have xA : x ≠ pA := ne_of_none (o := .ins _ _ _) (by walk_at "jhp") nA
      have xB : x ≠ pB := ne_of_none (o := .ins _ _ _) (by walk_at "jhp") nB
      have xC : x ≠ pC := ne_of_none (o := .ins _ _ _) (by walk_at "jhp") nC
      have xG : x ≠ pG := ne_of_none (o := .ins _ _ _) (by walk_at "jhp") nG
      have xD : x ≠ p_1 := ne_of_none (o := .ins _ _ _) (by walk_at "jhp") hn_2
      have nAB : pA ≠ pB := ne_of_none (o := .dK _) (by walk_at "jhp") nB
      have nAC : pA ≠ pC := ne_of_none (o := .dK _) (by walk_at "jhp") nC
      have nAG : pA ≠ pG := ne_of_none (o := .dK _) (by walk_at "jhp") nG
      have nAD : pA ≠ p_1 := ne_of_none (o := .dK _) (by walk_at "jhp") hn_2
      have nBC : pB ≠ pC := ne_of_none (o := .dK _) (by walk_at "jhp") nC
      have nBG : pB ≠ pG := ne_of_none (o := .dK _) (by walk_at "jhp") nG
      have nBD : pB ≠ p_1 := ne_of_none (o := .dK _) (by walk_at "jhp") hn_2
      have nCG : pC ≠ pG := ne_of_none (o := .dK _) (by walk_at "jhp") nG
      have nCD : pC ≠ p_1 := ne_of_none (o := .dK _) (by walk_at "jhp") hn_2
      have nGD : pG ≠ p_1 := ne_of_none (o := .dK _) (by walk_at "jhp") hn_2
      have nO : p ≠ p_1 := ne_of_none (o := .lst _) (by walk_at "jhp") hn_2
      have z1 : H'_10 pA = some (HO.dK (dmap ns fun n => V.str n)) := by walk_at "jhp"
      have z2 : H'_10 pB = some (HO.dK (dmap ns fun n => V.int 0)) := by walk_at "jhp"
      have z3 : H'_10 pC = some (HO.dK (dmap ns fun n => V.int 1)) := by walk_at "jhp"
      have z4 : H'_10 pG = some (HO.dK (dmap ns fun n => V.int 0)) := by walk_at "jhp"
      have z5 : H'_10 p_1 = some (HO.lst []) := by walk_at "jhp"
      have z6 : H'_10 p = some (HO.lst (ns.map V.str)) := by walk_at "jhp"
      have F : Fr1 x H H'_10 := by walk_at "jfr"
      have GO : Fr1 x H H1 := by walk_at "jfr"
      have GA : Fr1 x H H'_3 := by walk_at "jfr"
      have GB : Fr1 x H H'_4 := by walk_at "jfr"
      have GC : Fr1 x H H'_5 := by walk_at "jfr"
      have GG : Fr1 x H H'_6 := by walk_at "jfr"
      have GD : Fr1 x H H'_7 := by walk_at "jfr"
      refine q H'_10 ⟨dx, p, pA, pB, pC, pG, p_1⟩ F (fun m hm nx => ?_) (fun sp => StackAt.mk ⟨fun _ => 0, ⟨_, SIns.mk hp_10 ?_ ?_ ?_ ?_ ?_ ?_ ?_ ?_ ?_ ⟨_, putF_get_same⟩⟩, ?_, ?_, Hist.nil.forest, fun n _ h => absurd rfl h⟩ ⟨fun _ => 1, ?_⟩ ?_ ⟨[], ?_, Tups.nil⟩ ?_ ?_ nO Hist.nil (Nat.zero_le _) hz h0)
      · simp only [SkA.mut, List.mem_cons, List.not_mem_nil, or_false] at hm
        rcases hm with (rfl | rfl | rfl | rfl | rfl | rfl) | rfl
        · exact absurd rfl nx
        · exact GA.none nx nA
        · exact GB.none nx nB
        · exact GC.none nx nC
        · exact GG.none nx nG
        · exact GD.none nx hn_2
        · exact GO.none nx hn_1
      · (repeat (refine putF_lt ?_)); simp
      · walk_at "jnm"
      · walk_at "jlk"
      · walk_at "jlk"
      · walk_at "jlk"
      · walk_at "jlk"
      · walk_at "jlk"
      · walk_at "jlk"
      · walk_at "jlk"
      · assumption
      · assumption
      · assumption
      · assumption
      · assumption
      · assumption
      · simp [xA, xB, xC, xG, xD, nAB, nAC, nAG, nAD, nBC, nBG, nBD, nCG, nCD, nGD]
end
section
variable {P : Program} {w : World} {K : PySem.W.Frag} {mg : Str → Option Value} {base : Heap}
def sp_draw : Sp := fun vs H Q _ => ∃ (t : Addr) (m : Int) (b : Nat), vs = [.ref t, .int m] ∧ Tape H t b ∧ 0 < m ∧ m < 2 ^ 64 ∧ b ≤ 1000000 ∧ ∀ (r : Int) (H' : Hp), 0 ≤ r → r < m → Fr1 t H H' → Tape H' t (b + 1) → Q (.int r) H'
abbrev N_law_draw : List Str := ["_law_tape_here", "_law_many", "_law_found", "_law_once", "_law_twice"]
theorem sc_law_draw : FnScope N_law_draw ["_law_tape_here", "_law_many"] (defScope s_law_draw) := ⟨rfl, rfl, rfl, by decide +kernel, rfl, by decide +kernel, by decide +kernel⟩
theorem ok_law_draw (T : Txt w K mg) : OkF P w K mg base 1 (gA K "_law_draw") ["_law_tape_here", "_law_many"] sp_draw := by
  refine okF (Td_law_draw T) sc_law_draw (fun _ _ _ _ _ _ us hl => match us, hl with | [_, _], _ => rfl) (fun vs H Q E h => ?_) (fun cdv A outer s H vs Q E hr h => have hu := hu_of hr; ⟨_, (pss_cons (ps_if (pt_cmpR op_gt (pe_ix (ix_listK K) (pv 0) pe_int (fun _ _ => rfl)) pe_int (nomark _)) (pss_cons (ps_set (i := 2) sc_law_draw.nd rfl (by first | exact Or.inl rfl | exact Or.inr rfl) (pe_op op_modN (pe_ix (ix_listK K) (pv 0) pe_int (fun _ _ => rfl)) (pv 1)))
      (pss_cons (ps_asg (pe_op op_fdivW (pe_ix (ix_listK K) (pv 0) pe_int (fun _ _ => rfl)) (pv 1)) (pg_sub (pv 0) pe_int set_list))
      (pss_one (ps_ret (pv 2))))) pss_nil)
      (pss_cons (ps_asg (pe_op op_add (pe_ix (ix_listK K) (pv 0) pe_int (fun _ _ => rfl)) pe_int) (pg_sub (pv 0) pe_int set_list))
      (pss_cons (ps_set (i := 3) sc_law_draw.nd rfl (by first | exact Or.inl rfl | exact Or.inr rfl) (pe_op op_modN (pe_op op_pow (pe_op op_add (pe_ix (ix_listK K) (pv 0) pe_int (fun _ _ => rfl)) (pe_op op_mul pe_int (pe_ix (ix_listK K) (pv 0) pe_int (fun _ _ => rfl)))) pe_int) pe_int))
      (pss_cons (ps_set (i := 4) sc_law_draw.nd rfl (by first | exact Or.inl rfl | exact Or.inr rfl) (pe_op op_modN (pe_op op_mul (pe_op op_add (pv 3) (pe_ix (ix_listK K) (pv 0) pe_int (fun _ _ => rfl))) (pe_op op_add (pe_op op_add (pe_op op_modN (pv 3) pe_int) pe_int) (pe_ix (ix_listK K) (pv 0) pe_int (fun _ _ => rfl)))) pe_int))
      (pss_one (ps_ret (pe_op op_modN (pe_op op_fdivW (pe_op op_modN (pe_op op_add (pe_op op_mul (pv 4) pe_int) (pv 3)) pe_int) pe_int) (pv 1)))))))), ?_⟩)
  · obtain ⟨t, m, b, rfl, _⟩ := h
    rfl
  · obtain ⟨t, m, b, rfl, ⟨t0, t1, t2, ht, h1, h2, h3, h4⟩, hm, hm64, hb, q⟩ := h
    have dv : CDivW 0 m := wide_div (b := 64) hm (by omega) (by decide) (by decide)
    walk_at "jrd"
    refine ite_of (fun z => ?_) (fun z => ?_)
    · walk_at "jrd"
      refine r_I (by omega) ?_
      walk_at "jrd"
      refine r_I dv ?_
      walk_at "jrd"
      have r := fm_range (a := t0) hm
      exact q _ _ r.1 r.2 hf ⟨_, t1, t2, hp, h1, h2, h3, by omega⟩
    · walk_at "jrd"
      refine r_I (.inl (by decide)) ?_
      walk_at "jrd"
      refine r_I ⟨by decide, by decide, by omega⟩ ?_
      walk_at "jrd"
      refine r_I (by decide) ?_
      walk_at "jrd"
      have r1 := fm_range (a := (t1 + 39373 * (t2 + 1)) ^ (5 : Int).toNat) (m := 2147483647) (by decide)
      generalize ((t1 + 39373 * (t2 + 1)) ^ (5 : Int).toNat).fmod 2147483647 = o at *
      refine r_I (by decide) ?_
      walk_at "jrd"
      have r2 := fm_range (a := o) (m := 40009) (by decide)
      refine r_I (.inl (by omega)) ?_
      walk_at "jrd"
      refine r_I (by decide) ?_
      walk_at "jrd"
      have r3 := fm_range (a := (o + (t2 + 1)) * (o.fmod 40009 + 7 + (t2 + 1))) (m := 2147483629) (by decide)
      refine r_I (.inl (by omega)) ?_
      walk_at "jrd"
      refine r_I (by decide) ?_
      walk_at "jrd"
      refine r_I (by exact wide_div (b := 7) (by decide) (by decide) (by decide) (by decide)) ?_
      walk_at "jrd"
      refine r_I (by omega) ?_
      have r := fm_range (a := ((((o + (t2 + 1)) * (o.fmod 40009 + 7 + (t2 + 1))).fmod 2147483629 * 48271 + o).fmod 2147483587) / 64) hm
      exact q _ _ r.1 r.2 hf ⟨_, t1, t2 + 1, hp, h1, h2, by omega, by omega⟩
end
section
variable {P : Program} {w : World} {K : PySem.W.Frag} {mg : Str → Option Value} {base : Heap}
theorem dmap_congr {ns : List Str} {f g : Str → V} (h : ∀ n ∈ ns, f n = g n) : dmap ns f = dmap ns g := List.map_congr_left fun n hn => by rw [h n hn]
def sp_right_step : Sp := fun vs H Q _ => ∃ (t s : Addr) (turn : Int) (o p : Str) (b : Nat) (ns : List Str) (sp : Str → Int), vs = [.ref t, .ref s, .int turn, .str o, .str p] ∧ Tape H t b ∧ b ≤ 1000000 ∧ H s = some (.dK (dmap ns fun n => .int (sp n))) ∧ o ∈ ns ∧ p ∈ ns ∧ 0 ≤ turn ∧ turn ≤ 1000 ∧
  ∀ (d : Int) (H' : Hp), -2 ≤ d → d ≤ 2 → Fr1 t H H' → Tape H' t (b + 1) → Q (.int (sp p - sp o + turn * d)) H'
abbrev N_law_right_step : List Str := ["_law_tape_here", "_law_spots", "_law_turn", "_law_one", "_law_other"]
theorem sc_law_right_step : FnScope N_law_right_step ["_law_tape_here", "_law_spots", "_law_turn", "_law_one", "_law_other"] (defScope s_law_right_step) := ⟨rfl, rfl, rfl, by decide +kernel, rfl, by decide +kernel, by decide +kernel⟩
theorem ok_law_right_step (T : Txt w K mg) : OkF P w K mg base 2 (gA K "_law_right_step") ["_law_tape_here", "_law_spots", "_law_turn", "_law_one", "_law_other"] sp_right_step := by
  obtain ⟨fd_law_draw, c_law_draw⟩ := ok_law_draw (P := P) (base := base) T
  refine okF (Td_law_right_step T) sc_law_right_step (fun _ _ _ _ _ _ us hl => match us, hl with | [_, _, _, _, _], _ => rfl) (fun vs H Q E h => ?_) (fun cdv A outer s H vs Q E hr h => have hu := hu_of hr; ⟨_, (pss_one (ps_ret (pe_op op_add (pe_op op_sub (pe_dget hu (pv 1) (pv 4) (fun _ _ => rfl)) (pe_dget hu (pv 1) (pv 3) (fun _ _ => rfl))) (pe_op op_mul (pv 2) (pe_op op_sub (pe_call c_law_draw.1 (hr.mono (by decide)) rfl (Tg_law_draw T) c_law_draw.2.2 c_law_draw.2.1 .nil pass0 (pa_cons (pv 0) (pa_cons pe_int pa_nil))) pe_int))))), ?_⟩)
  · obtain ⟨t, s, turn, o, p, b, ns, sp, rfl, _⟩ := h
    rfl
  · obtain ⟨t, s, turn, o, p, b, ns, sp, rfl, ht, hb, hs, ho, hp, h0, h1, q⟩ := h
    walk_at "jrd"
    refine ⟨t, 5, b, rfl, ht, by decide, by decide, hb, fun r H' r0 r1 f t' => ?_⟩
    walk_at "jrd"
    refine r_I (.inl (by omega)) ?_
    walk_at "jrd"
    exact q (r - 2) H' (by omega) (by omega) f t'
def sp_labels : Sp := fun vs H Q _ => ∃ (β : Type) (enc : β → List V) (e : β → Str × Str) (nl rl : Addr) (ns : List Str) (ws : List V) (xs : List β), vs = [.ref nl, .ref rl] ∧ H nl = some (.lst (ns.map V.str)) ∧ H rl = some (.lst ws) ∧ Tups H enc ws xs ∧
  (∀ x, ∃ rest, enc x = .str (e x).1 :: .str (e x).2 :: rest) ∧ (∀ x ∈ xs, (e x).1 ∈ ns ∧ (e x).2 ∈ ns) ∧ ns.Nodup ∧ ns.length ≤ 1000 ∧ xs.length ≤ 1000 ∧
  ∀ (p d l : Addr) (H' : Hp), Same H H' → H p = none → H d = none → H l = none → H' p = some (.tup [.ref d, .ref l]) → H' d = some (.dK (dmap ns fun n => .str ((labsP (xs.map e)).1 n))) → H' l = some (.lst ((labsP (xs.map e)).2.map fun k => .int (k : Nat))) → Q (.ref p) H'
abbrev N_law_labels : List Str := ["_law_names_here", "_law_rows", "_law_labels_here", "_law_held", "_law_name", "_law_place", "_law_row", "_law_one", "_law_other"]
theorem sc_law_labels : FnScope N_law_labels ["_law_names_here", "_law_rows"] (defScope s_law_labels) := ⟨rfl, rfl, rfl, by decide +kernel, rfl, by decide +kernel, by decide +kernel⟩
theorem ok_law_labels (T : Txt w K mg) : OkF P w K mg base 1 (gA K "_law_labels") ["_law_names_here", "_law_rows"] sp_labels := by
  refine okF (Td_law_labels T) sc_law_labels (fun _ _ _ _ _ _ us hl => match us, hl with | [_, _], _ => rfl) (fun vs H Q E h => ?_) (fun cdv A outer s H vs Q E hr h => have hu := hu_of hr; ⟨_, (pss_cons (ps_par (i := 2) (j := 3) (by rfl) sc_law_labels.nd rfl rfl (by decide) rfl rfl (pa_cons (pe_callTy (call_dictJ K rfl) (by rfl) (Tf_dict T) (by decide +kernel) (pa_cons (pe_lc (own := [("_law_name", 4)]) (tt := tYes) rfl sc_law_labels.nd (pi_list (pv 0)) (blkOk_by (N := N_law_labels) (sc := defScope s_law_labels) (by decide +kernel)) (fun _ _ _ _ _ => (pg_name (i := 4) sc_law_labels.nd rfl (by first | exact Or.inl rfl | exact Or.inr rfl))) (fun _ _ _ _ _ => pts_nil) (fun _ _ _ _ _ => (pe_tup (pa_cons (pv 4) (pa_cons (pv 4) pa_nil))))) pa_nil)) (pa_cons (pe_lst pa_nil) pa_nil)) (by rfl))
      (pss_cons (ps_for PassesOwn.never rfl (pi_enum (by rfl) (Tf_enumerate T) (pa_cons (pv 1) pa_nil)) (pg_tupK K (n := 2) rfl (pgs_cons (pg_name (i := 5) sc_law_labels.nd rfl (by first | exact Or.inl rfl | exact Or.inr rfl)) (pgs_cons (pg_name (i := 6) sc_law_labels.nd rfl (by first | exact Or.inl rfl | exact Or.inr rfl)) pgs_nil)))
      (pss_cons (ps_par (i := 7) (j := 8) (by rfl) sc_law_labels.nd rfl rfl (by decide) rfl rfl (pa_cons (pe_dget hu (pv 2) (pe_ix (ix_tupK K) (pv 6) pe_int (fun _ _ => rfl)) (fun _ _ => rfl)) (pa_cons (pe_dget hu (pv 2) (pe_ix (ix_tupK K) (pv 6) pe_int (fun _ _ => rfl)) (fun _ _ => rfl)) pa_nil)) (by rfl))
      (pss_one (ps_if (pt_cmpR op_ne (pv 7) (pv 8) (nomark _)) (pss_cons (ps_expr (pe_bm PySem.F.plainAttrs_list PySem.F.slot_list_append PySem.F.type_list_append mt_append (pv 3) (pa_cons (pv 5) pa_nil)))
      (pss_one (ps_for PassesOwn.never rfl (pi_list (pv 0)) (pg_name (i := 4) sc_law_labels.nd rfl (by first | exact Or.inl rfl | exact Or.inr rfl))
      (pss_one (ps_if (pt_cmpR op_eq (pe_dget hu (pv 2) (pv 4) (fun _ _ => rfl)) (pv 8) (nomark _)) (pss_one (ps_dput hu (pv 2) (pv 4) (pv 7) rfl)) pss_nil))))) pss_nil))))
      (pss_one (ps_ret (pe_tup (pa_cons (pv 2) (pa_cons (pv 3) pa_nil))))))), ?_⟩)
  · obtain ⟨β, enc, e, nl, rl, ns, ws, xs, rfl, _⟩ := h
    rfl
  · obtain ⟨β, enc, e, nl, rl, ns, ws, xs, rfl, hnl, hrl, hT, henc, hin, nd, hns, hxs, q⟩ := h
    walk_at "jrd"
    refine lc_dict (fun n => .str n) hnl nd hns (fun n => ⟨rfl, rfl⟩) (fun n H' Q _ _ k => by walk_at "jrd"; exact k) fun d H1 nd1 e1 h1 => ?_
    walk_at "jrd"
    have e02 : Same H H' := e1.trans he
    refine loop_walk walk_en (fun i σ H2 => Same H H2 ∧ (∃ v1 v2 v3 v4 v5, σ = [some (.ref nl), some (.ref rl), some (.ref d), some (.ref p), v5, v1, v2, v3, v4] ∧ True) ∧
        H2 d = some (.dK (dmap ns fun n => .str ((labsP ((xs.take i).map e)).1 n))) ∧ H2 p = some (.lst ((labsP ((xs.take i).map e)).2.map fun k => .int (k : Nat))))
      ⟨e02, ?_, he _ _ h1, hp⟩ (fun i σ H2 _ p => SqL.of (p.1 _ _ hrl)) ?_ ?_
    · exact ⟨_, _, _, _, _, rfl, trivial⟩
    · rintro i y σ H2 H2' hi ⟨e2, ⟨v1, v2, v3, v4, v5, rfl, _⟩, hd, hl⟩ ⟨t, v, rfl, ht, eT, hT2, hv⟩
      obtain ⟨x, u, hx, rfl, hu⟩ := (hT.stay (Same.tups (e2.trans eT))).2 i v hv
      obtain ⟨rest, hr⟩ := henc x
      rw [hr] at hu
      have hxm : x ∈ xs := List.mem_of_getElem? hx
      obtain ⟨ha, hb⟩ := hin x hxm
      have hd' := eT _ _ hd
      have hl' := eT _ _ hl
      have e2' := e2.trans eT
      clear eT hd hl
      have ilt : i < xs.length := (List.getElem?_eq_some_iff.mp hx).1
      have llen : (labsP ((xs.take i).map e)).2.length ≤ 1000 := by
        have := (labs_sub (plc ((xs.take i).map e))).length_le
        rw [plc_fst, List.length_range] at this
        rw [List.length_map, List.length_take] at this
        show (labs (plc ((xs.take i).map e))).2.length ≤ 1000
        omega
      have em : (xs.take (i + 1)).map e = (xs.take i).map e ++ [e x] := by rw [take_more hx, List.map_append]; rfl
      have ll : ((xs.take i).map e).length = i := by simp; omega
      rw [em, labsP_snoc, ll]
      walk_at "jrd"
      refine ite_nof (fun hne => ?_) (fun heq => ?_)
      · rw [if_neg hne]
        walk_at "jrd"
        have n0 : nl ≠ p := ne_of_none (e1 _ _ hnl) hn
        refine r_append hl' (szlt _ (by rw [List.length_map]; omega)) ?_
        intro H5 hf hp_1
        walk_at "jrd"
        have n1 : d ≠ p := ne_of (he _ _ h1) hp (by intro z; cases z)
        refine loop_list (xs := ns.map V.str) (fun j σ H4 => Same H H4 ∧ (∃ v, σ = [some (.ref nl), some (.ref rl), some (.ref d), some (.ref p), v, some (.int (i : Nat)), some (.ref u), some (.str ((labsP ((xs.take i).map e)).1 (e x).1)), some (.str ((labsP ((xs.take i).map e)).1 (e x).2))]) ∧
            H4 d = some (.dK (dmap ns fun n => .str (if n ∈ ns.take j ∧ (labsP ((xs.take i).map e)).1 n = (labsP ((xs.take i).map e)).1 (e x).2 then (labsP ((xs.take i).map e)).1 (e x).1 else (labsP ((xs.take i).map e)).1 n))) ∧ H4 p = some (.lst ((labsP ((xs.take i).map e)).2.map (fun k => V.int (k : Nat)) ++ [.int (i : Nat)])))
          ⟨Same.mut e2' (e1.free hn) hf, ⟨_, rfl⟩, ?_, hp_1⟩ (fun j σ H4 _ p => p.1 _ _ hnl) ?_ ?_
        · rw [hf _ _ hd' n1]
          refine congrArg (fun z => some (HO.dK z)) (dmap_congr fun n _ => ?_)
          simp
        · rintro j y σ H4 hj ⟨e4, ⟨v, rfl⟩, hd4, hl4⟩
          rw [List.getElem?_map, Option.map_eq_some_iff] at hj
          obtain ⟨n, hn', rfl⟩ := hj
          have hnn : n ∈ ns := List.mem_of_getElem? hn'
          have hnot : ¬ n ∈ ns.take j := fun z => by
            obtain ⟨j', hj', hje⟩ := List.mem_iff_getElem.mp z
            rw [List.length_take] at hj'
            have h2 : ns[j']? = some n := by rw [← hje, List.getElem_take]; exact List.getElem?_eq_getElem _
            have h3 := (List.getElem?_inj (by omega) nd).mp (h2.trans hn'.symm)
            omega
          walk_at "jrd"
          have hx0 : (if n ∈ ns.take j ∧ (labsP ((xs.take i).map e)).1 n = (labsP ((xs.take i).map e)).1 (e x).2 then (labsP ((xs.take i).map e)).1 (e x).1 else (labsP ((xs.take i).map e)).1 n) = (labsP ((xs.take i).map e)).1 n := if_neg (fun z => hnot z.1)
          rw [hx0]
          have step : ∀ m ∈ ns, (if m ∈ ns.take (j + 1) ∧ (labsP ((xs.take i).map e)).1 m = (labsP ((xs.take i).map e)).1 (e x).2 then (labsP ((xs.take i).map e)).1 (e x).1 else (labsP ((xs.take i).map e)).1 m) = if m = n ∧ (labsP ((xs.take i).map e)).1 n = (labsP ((xs.take i).map e)).1 (e x).2 then (labsP ((xs.take i).map e)).1 (e x).1 else if m ∈ ns.take j ∧ (labsP ((xs.take i).map e)).1 m = (labsP ((xs.take i).map e)).1 (e x).2 then (labsP ((xs.take i).map e)).1 (e x).1 else (labsP ((xs.take i).map e)).1 m := by
            intro m _
            rw [take_more hn']
            by_cases z : m = n
            · subst z
              by_cases y : (labsP ((xs.take i).map e)).1 m = (labsP ((xs.take i).map e)).1 (e x).2
              · simp [y, hnot]
              · simp [y, hnot]
            · simp [z]
          refine ite_of (fun z => ?_) (fun z => ?_)
          · walk_at "jrd"
            refine ⟨Same.mut e4 nd1 hf_1, ⟨_, rfl⟩, ?_, hf_1 _ _ hl4 n1.symm⟩
            rw [hp_2]
            congr 2
            refine dmap_congr fun m hm => ?_
            rw [step m hm]
            unfold setF
            by_cases y : m = n
            · rw [if_pos y, if_pos ⟨y, z⟩]
            · rw [if_neg y, if_neg (fun q => y q.1)]
          · walk_at "jrd"
            refine ⟨e4, ⟨_, rfl⟩, ?_, hl4⟩
            rw [hd4]
            congr 2
            refine dmap_congr fun m hm => ?_
            rw [step m hm]; exact (congrArg V.str (if_neg (fun q => z q.2))).symm
        · rintro σ H4 ⟨e4, ⟨v, rfl⟩, hd4, hl4⟩
          rw [List.length_map, List.take_length] at hd4
          refine ⟨e4, ⟨_, _, _, _, _, rfl, trivial⟩, ?_, ?_⟩
          · rw [hd4]
            congr 2
            refine dmap_congr fun m hm => ?_
            show V.str _ = V.str (relab _ _ _ m)
            unfold relab
            by_cases y : (labsP ((xs.take i).map e)).1 m = (labsP ((xs.take i).map e)).1 (e x).2
            · rw [if_pos ⟨hm, y⟩, if_pos y]
            · rw [if_neg (fun q => y q.2), if_neg y]
          · rw [hl4, List.map_append]; rfl
      · rw [if_pos heq]
        walk_at "jrd"
        exact ⟨e2', ⟨_, _, _, _, _, rfl, trivial⟩, hd', hl'⟩
    · rintro σ H2 ⟨e2, ⟨v1, v2, v3, v4, v5, rfl, _⟩, hd, hl⟩
      rw [List.take_of_length_le (by rw [hT.1]; exact Nat.le_refl _)] at hd hl
      walk_at "jrd"
      exact q _ _ _ _ (e2.trans he_1) (e2.free hn_1) nd1 (e1.free hn) hp_1 (he_1 _ _ hd) (he_1 _ _ hl)
end
section
variable {P : Program} {w : World} {K : PySem.W.Frag} {mg : Str → Option Value} {base : Heap}
/-! ### comparisons of plain data -/
def flV : V → Bool
  | .non => true | .bl _ => true | .int _ => true | .str z => PyData.strOk z | _ => false
def pdV : V → PyData
  | .non => .none | .bl b => .bool b | .int i => .int i | .str z => .str z | _ => .none
def Ly (n : Nat) (d : PyData) : Prop := d.canLay0 = true ∧ d.depth ≤ n
theorem Ly.shaped {n : Nat} {d : PyData} (h : Ly n d) (hn : n ≤ 64) : SeqAt.shaped d = true := by
  unfold SeqAt.shaped
  rw [h.1, decide_eq_true (Nat.le_trans h.2 hn)]; rfl
theorem Ly.refl {n : Nat} {d : PyData} (h : Ly n d) : PyData.eqv d d = true := SeqAt.eqv_refl d h.1
theorem Ly.mono {n m : Nat} {d : PyData} (h : Ly n d) (hn : n ≤ m) : Ly m d := ⟨h.1, Nat.le_trans h.2 hn⟩
theorem canLayAll0_of : ∀ {ds : List PyData}, (∀ d ∈ ds, d.canLay0 = true) → PyData.canLayAll0 ds = true
  | [], _ => rfl
  | d :: r, h => by
    show (d.canLay0 && PyData.canLayAll0 r) = true
    rw [h d (by simp), canLayAll0_of fun e he => h e (by simp [he])]; rfl
theorem depthAll_of {n : Nat} : ∀ {ds : List PyData}, (∀ d ∈ ds, d.depth ≤ n) → PyData.depthAll ds ≤ n
  | [], _ => by simp [PyData.depthAll]
  | d :: r, h => by
    have h1 := h d (by simp)
    have h2 := depthAll_of (n := n) fun e he => h e (List.mem_cons_of_mem d he)
    simp only [PyData.depthAll]; omega
theorem Ly.tup {n : Nat} {ds : List PyData} (h : ∀ d ∈ ds, Ly n d) : Ly (n + 1) (.tuple ds) :=
  ⟨by show PyData.canLayAll0 ds = true; exact canLayAll0_of fun d hd => (h d hd).1, by
    have := depthAll_of (n := n) fun d hd => (h d hd).2
    simp only [PyData.depth]; omega⟩
theorem Ly.lst {n : Nat} {ds : List PyData} (h : ∀ d ∈ ds, Ly n d) : Ly (n + 1) (.list ds) :=
  ⟨by show PyData.canLayAll0 ds = true; exact canLayAll0_of fun d hd => (h d hd).1, by
    have := depthAll_of (n := n) fun d hd => (h d hd).2
    simp only [PyData.depth]; omega⟩
theorem Ly.pd {v : V} (h : flV v = true) : Ly 0 (pdV v) := by
  cases v with
  | str z => exact ⟨h, by simp [pdV, PyData.depth]⟩
  | _ => exact ⟨by simp [pdV, PyData.canLay0], by simp [pdV, PyData.depth]⟩
theorem Ly.pds {vs : List V} (h : ∀ v ∈ vs, flV v = true) : ∀ d ∈ vs.map pdV, Ly 0 d := fun d hd => by
  obtain ⟨v, hv, rfl⟩ := List.mem_map.mp hd
  exact Ly.pd (h v hv)
section
variable {K : PySem.W.Frag} {H : Hp} {Q : VK}
theorem dp_fl {v : V} (h : flV v = true) : Dp K H v (pdV v) := by
  cases v with
  | non => exact .non
  | bl b => exact .bl b
  | int i => exact .int i
  | str z => exact .str z
  | _ => cases h
theorem dpAll_fl : ∀ {vs : List V}, (∀ v ∈ vs, flV v = true) → DpAll K H vs (vs.map pdV)
  | [], _ => .nil
  | v :: r, h => .cons (dp_fl (h v (by simp))) (dpAll_fl fun w hw => h w (by simp [hw]))
theorem dp_tup {a : Addr} {vs : List V} (h : H a = some (.tup vs)) (f : ∀ v ∈ vs, flV v = true) : Dp K H (.ref a) (.tuple (vs.map pdV)) := .tup (SqT.of h) (dpAll_fl f)
theorem dp_lst {a : Addr} {vs : List V} (h : H a = some (.lst vs)) (f : ∀ v ∈ vs, flV v = true) : Dp K H (.ref a) (.list (vs.map pdV)) := .lst (SqL.of h) (dpAll_fl f)
theorem dpAll_tups {β : Type} {enc : β → List V} : ∀ {vs : List V} {xs : List β}, Tups H enc vs xs → (∀ x ∈ xs, ∀ v ∈ enc x, flV v = true) → DpAll K H vs (xs.map fun x => .tuple ((enc x).map pdV))
  | [], xs, t, _ => by
    have : xs = [] := List.length_eq_zero_iff.mp (t.1.symm ▸ rfl)
    subst this; exact .nil
  | v :: r, [], t, _ => by have := t.1; simp at this
  | v :: r, x :: xs, t, f => by
    obtain ⟨y, q, h1, h2, h3⟩ := t.2 0 v rfl
    have hx : x = y := by simpa using h1
    subst hx; subst h2
    exact .cons (dp_tup h3 (f x (by simp))) (dpAll_tups ⟨by have := t.1; simpa using this, fun i v hv => t.2 (i + 1) v hv⟩ fun y hy => f y (by simp [hy]))
theorem dp_tups {β : Type} {enc : β → List V} {a : Addr} {vs : List V} {xs : List β} (h : H a = some (.lst vs)) (t : Tups H enc vs xs) (f : ∀ x ∈ xs, ∀ v ∈ enc x, flV v = true) : Dp K H (.ref a) (.list (xs.map fun x => .tuple ((enc x).map pdV))) :=
  .lst (SqL.of h) (dpAll_tups t f)
theorem ly_tups {β : Type} {enc : β → List V} {xs : List β} (f : ∀ x ∈ xs, ∀ v ∈ enc x, flV v = true) : Ly 2 (.list (xs.map fun x => .tuple ((enc x).map pdV))) := Ly.lst fun d hd => by
  obtain ⟨x, hx, rfl⟩ := List.mem_map.mp hd
  exact Ly.tup (Ly.pds (f x hx))
theorem ly_tup {vs : List V} (f : ∀ v ∈ vs, flV v = true) : Ly 1 (.tuple (vs.map pdV)) := Ly.tup (Ly.pds f)
theorem ly_lst {vs : List V} (f : ∀ v ∈ vs, flV v = true) : Ly 1 (.list (vs.map pdV)) := Ly.lst (Ly.pds f)
theorem r_neSame {n : Nat} {x y : V} {d : PyData} (hx : Dp K H x d) (hy : Dp K H y d) (l : Ly n d) (hn : n ≤ 64) (k : Q (.bl false) H) : rNeD K x y H Q :=
  ⟨d, d, hx, hy, l.shaped hn, l.shaped hn, by rw [l.refl]; exact k⟩
theorem r_eqSame {n : Nat} {x y : V} {d : PyData} (hx : Dp K H x d) (hy : Dp K H y d) (l : Ly n d) (hn : n ≤ 64) (k : Q (.bl true) H) : rEqD K x y H Q :=
  ⟨d, d, hx, hy, l.shaped hn, l.shaped hn, by rw [l.refl]; exact k⟩
/-- a list against an empty one -/
theorem eqv_lst_nil (ds : List PyData) : PyData.eqv (.list ds) (.list []) = ds.isEmpty := by cases ds <;> simp [PyData.eqv, PyData.eqvAll]
theorem dp_nil {a : Addr} (h : H a = some (.lst [])) : Dp K H (.ref a) (.list []) := .lst (SqL.of h) .nil
theorem r_neNil {n : Nat} {a : Addr} {x : V} {ds : List PyData} (hx : Dp K H x (.list ds)) (l : Ly n (.list ds)) (hn : n ≤ 64) (h : H a = some (.lst [])) (k : Q (.bl (!ds.isEmpty)) H) : rNeD K x (.ref a) H Q :=
  ⟨_, _, hx, dp_nil h, l.shaped hn, rfl, by rw [eqv_lst_nil]; exact k⟩
theorem r_eqNil {n : Nat} {a : Addr} {x : V} {ds : List PyData} (hx : Dp K H x (.list ds)) (l : Ly n (.list ds)) (hn : n ≤ 64) (h : H a = some (.lst [])) (k : Q (.bl ds.isEmpty) H) : rEqD K x (.ref a) H Q :=
  ⟨_, _, hx, dp_nil h, l.shaped hn, rfl, by rw [eqv_lst_nil]; exact k⟩
/-- two flat data of one kind, compared outright -/
theorem r_neFl {x y : V} (hx : flV x = true) (hy : flV y = true) (k : Q (.bl (!PyData.eqv (pdV x) (pdV y))) H) : rNeD K x y H Q :=
  ⟨_, _, dp_fl hx, dp_fl hy, (Ly.pd hx).shaped (by decide), (Ly.pd hy).shaped (by decide), k⟩
end
theorem IsNm.ok {z : Str} (h : IsNm z) : PyData.strOk z = true := by
  unfold PyData.strOk
  rw [← Array.all_toList, List.all_eq_true]
  intro c hc
  have h2 : ∀ c ∈ lettersS.cps.toList, decide (c < 0x110000) = true := by decide +kernel
  exact h2 c (h.2.2 c hc)
/-- a sequence whose second part is shown once, ahead -/
def Hid (u : L2.St → Hp → Prop) : L2.St → Hp → Prop := u
theorem w_seqK {D : Ends} {σ : L2.St} {H : Hp} {t u : TS} (R : L2.St → Hp → Prop) (h2 : ∀ σ H, R σ H → u D σ H) (h1 : (∀ σ H, R σ H → Hid (u D) σ H) → t { D with nx := Hid (u D) } σ H) : tSeq t u D σ H := h1 h2
theorem nil_or_snoc {β : Type} (l : List β) : l = [] ∨ ∃ l' x, l = l' ++ [x] := by
  by_cases h : l = []
  · exact .inl h
  · exact .inr ⟨l.dropLast, l.getLast h, (List.dropLast_concat_getLast h).symm⟩
end
section
variable {P : Program} {w : World} {K : PySem.W.Frag} {mg : Str → Option Value} {base : Heap}
def sp_tape (K : PySem.W.Frag) : Sp := fun vs H Q _ => ∃ (s : Addr) (cells : List Int) (k : Nat), vs = [.ref s, .int (k : Nat)] ∧ SqL K H s (cells.map V.int) ∧ k ≤ 10 ∧ ∀ (p : Addr) (H' : Hp), H p = none → Same H H' → Tape H' p 0 → Q (.ref p) H'
theorem b01 (b : Bool) : -(2 ^ 64) < (if b = true then (1 : Int) else 0) ∧ (if b = true then (1 : Int) else 0) < 2 ^ 64 := by cases b <;> decide
abbrev N_law_tape : List Str := ["_law_script", "_law_k", "_law_cell"]
theorem sc_law_tape : FnScope N_law_tape ["_law_script", "_law_k"] (defScope s_law_tape) := ⟨rfl, rfl, rfl, by decide +kernel, rfl, by decide +kernel, by decide +kernel⟩
theorem ok_law_tape (T : Txt w K mg) : OkF P w K mg base 1 (gA K "_law_tape") ["_law_script", "_law_k"] (sp_tape K) := by
  refine okF (Td_law_tape T) sc_law_tape (fun _ _ _ _ _ _ us hl => match us, hl with | [_, _], _ => rfl) (fun vs H Q E h => ?_) (fun cdv A outer s H vs Q E hr h => have hu := hu_of hr; ⟨_, (pss_cons (ps_set (i := 2) sc_law_tape.nd rfl (by first | exact Or.inl rfl | exact Or.inr rfl) (pe_ifExp (pt_cmpR op_lt (pv 1) (pe_callB (call_lenJ K) (by rfl) (Tf_len T) (by decide +kernel) (pa_cons (pv 0) pa_nil)) (nomark _)) (pe_ix (ix_listK K) (pv 0) (pv 1) (fun _ _ => rfl)) pe_int))
      (pss_one (ps_ret (pe_lst (pa_cons (pe_op op_mul (pe_callB call_absJ (by rfl) (Tf_abs T) (by decide +kernel) (pa_cons (pv 2) pa_nil)) (pe_callTy call_int1J (by rfl) (Tf_int T) (by decide +kernel) (pa_cons (pe_cmpR op_ge (pe_callB call_absJ (by rfl) (Tf_abs T) (by decide +kernel) (pa_cons (pv 2) pa_nil)) (pe_op op_pow pe_int pe_int) (nomark _)) pa_nil))) (pa_cons (pe_op op_add (pe_op op_add (pe_op op_modN (pv 2) pe_int) (pe_op op_mul pe_int (pv 1))) pe_int) (pa_cons pe_int pa_nil))))))), ?_⟩)
  · obtain ⟨s, cells, k, rfl, _⟩ := h
    rfl
  · obtain ⟨s, cells, k, rfl, hs, hk, q⟩ := h
    walk_at "jrd"
    refine ⟨s, _, rfl, .inl hs, ?_⟩
    walk_at "jrd"
    have tl : ∀ (c : Int) (p : Addr) (H' : Hp) (x : Int), H p = none → Same H H' → H' p = some (.lst [.int x, .int (c.fmod 2305843009213693951 + 39373 * (k : Nat) + 17), .int 0]) → Q (.ref p) H' := by
      intro c p H' x hn he hp
      have r := fm_range (a := c) (m := 2305843009213693951) (by decide)
      exact q p H' hn he ⟨_, _, 0, hp, by omega, by omega, by decide, by decide⟩
    refine ite_of (fun z => ?_) (fun z => ?_)
    · have hl : k < cells.length := by simp at z; exact z
      refine w_op (w_var rfl (w_var rfl ?_))
      refine ⟨s, _, _, .int cells[k], rfl, rfl, hs, atI_nat (by simp [hl]), ?_⟩
      walk_at "jrd"
      refine r_I ⟨by decide, by decide, by decide⟩ ?_
      walk_at "jrd"
      refine r_I (.inr (b01 _)) ?_
      walk_at "jrd"
      refine r_I (by decide) ?_
      walk_at "jrd"
      refine r_I (.inl (by decide)) ?_
      walk_at "jrd"
      exact tl _ _ _ _ hn he hp
    · walk_at "jrd"
      refine r_I ⟨by decide, by decide, by decide⟩ ?_
      walk_at "jrd"
      refine r_I (.inr (b01 _)) ?_
      walk_at "jrd"
      refine r_I (by decide) ?_
      walk_at "jrd"
      refine r_I (.inl (by decide)) ?_
      walk_at "jrd"
      exact tl _ _ _ _ hn he hp
end
section
variable {P : Program} {w : World} {K : PySem.W.Frag} {mg : Str → Option Value} {base : Heap}
def nm (k : Nat) : Str := ⟨(#[97 + k % 26] : Array Nat)⟩ ++ ⟨(List.replicate (k / 26 + 1) [97 + (7 * k + 3) % 26]).flatten.toArray⟩
def nms (m : Nat) : List Str := (List.range m).map nm
theorem nms_ok : ∀ k < 41, IsNm (nm k) := by
  unfold IsNm; decide +kernel
theorem nms_nodup : ∀ m < 42, (nms m).Nodup := by decide +kernel
theorem fm_nat (a b : Nat) : (a : Int).fmod (b : Nat) = ((a % b : Nat) : Int) := by
  rw [Int.fmod_eq_emod_of_nonneg _ (by omega)]; rfl
theorem letter_at (j : Nat) (h : j < 26) : atI (lettersS.cps.toList) (j : Nat) = some (97 + j) := by
  have : ∀ j < 26, atI (lettersS.cps.toList) ((j : Nat) : Int) = some (97 + j) := by decide +kernel
  exact this j h
theorem r_letter {H : Hp} {Q : VK} {i : Int} {a : Nat} (e : i = (a : Nat)) (k : Q (.str ⟨#[97 + a % 26]⟩) H) : rIxS (.str lettersS) (.int (i.fmod 26)) H Q := by
  subst e
  exact ⟨lettersS, _, 97 + a % 26, rfl, rfl, by rw [sizeLine_eq]; decide +kernel, by rw [show ((26 : Int)) = ((26 : Nat) : Int) from rfl, fm_nat]; exact letter_at _ (Nat.mod_lt _ (by decide)), k⟩
def sp_names : Sp := fun vs H Q _ => ∃ (m : Nat), vs = [.int (m : Nat)] ∧ m ≤ 41 ∧ ∀ (p : Addr) (H' : Hp), H p = none → Same H H' → H' p = some (.lst ((nms m).map V.str)) → Q (.ref p) H'
abbrev N_law_names : List Str := ["_law_many", "_law_letters", "_law_k"]
theorem sc_law_names : FnScope N_law_names ["_law_many"] (defScope s_law_names) := ⟨rfl, rfl, rfl, by decide +kernel, rfl, by decide +kernel, by decide +kernel⟩
theorem ok_law_names (T : Txt w K mg) : OkF P w K mg base 1 (gA K "_law_names") ["_law_many"] sp_names := by
  refine okF (Td_law_names T) sc_law_names (fun _ _ _ _ _ _ us hl => match us, hl with | [_], _ => rfl) (fun vs H Q E h => ?_) (fun cdv A outer s H vs Q E hr h => have hu := hu_of hr; ⟨_, (pss_cons (ps_set (i := 1) sc_law_names.nd rfl (by first | exact Or.inl rfl | exact Or.inr rfl) pe_str)
      (pss_one (ps_ret (pe_lc (own := [("_law_k", 2)]) (tt := tYes) rfl sc_law_names.nd (pi_range1 rfl (Tf_range T) (pa_cons (pv 0) pa_nil)) (blkOk_by (N := N_law_names) (sc := defScope s_law_names) (by decide +kernel)) (fun _ _ _ _ _ => (pg_name (i := 2) sc_law_names.nd rfl (by first | exact Or.inl rfl | exact Or.inr rfl))) (fun _ _ _ _ _ => pts_nil) (fun _ _ _ _ _ => (pe_op op_addSJ (pe_ix ix_str (pv 1) (pe_op op_modN (pv 2) pe_int) (fun _ _ => rfl)) (pe_op op_repS (pe_ix ix_str (pv 1) (pe_op op_modN (pe_op op_add (pe_op op_mul pe_int (pv 2)) pe_int) pe_int) (fun _ _ => rfl)) (pe_op op_add (pe_op op_fdivW (pv 2) pe_int) pe_int)))))))), ?_⟩)
  · obtain ⟨m, rfl, _⟩ := h
    rfl
  · obtain ⟨m, rfl, hm, q⟩ := h
    walk_at "jrd"
    refine r_rng1 (by omega) (by omega) ?_
    refine lc_M [] walk_range (fun H' f => trivial) (by simp; omega) (by simp) (fun i acc H' => acc = (nms i).map V.str) rfl (fun i acc H1 H2 p t m => p) ?_ ?_
    · rintro i y acc H3 H3' KY KN hi rfl f1 ⟨rfl, rfl⟩ hacc hY hN
      walk_at "jrd"
      refine ⟨rfl, ?_⟩
      walk_at "jrd"
      refine ite_T rfl ?_
      walk_at "jrd"
      refine r_I (by decide) ?_
      refine r_letter (a := i) (by omega) ?_
      walk_at "jrd"
      refine r_I (.inl (by decide)) ?_
      walk_at "jrd"
      refine r_I (by decide) ?_
      refine r_letter (a := 7 * i + 3) (by omega) ?_
      walk_at "jrd"
      refine r_I (by exact ⟨by decide, by decide⟩) ?_
      walk_at "jrd"
      have e : ((0 + (i : Int)) / 26 + 1) = ((i / 26 + 1 : Nat) : Int) := by omega
      have i41 : i / 26 + 1 ≤ 2 := by have : i ≤ 40 := by have := hi; simp at this; omega
                                      omega
      rw [e]
      refine ⟨_, _, rfl, rfl, ?_, by show (1 : Nat) ≤ 1000; omega, by omega, by omega, ?_⟩
      · show 1 * (((i / 26 + 1 : Nat) : Int)).toNat ≤ 1000000
        omega
      · refine j_addS (sz _ ?_) ?_
        · show 1 + ((List.replicate _ [97 + (7 * i + 3) % 26]).flatten.toArray).size ≤ 16777216
          simp
          omega
        · refine hY _ _ (FrM.refl _ _) ?_
          unfold nms
          rw [List.range_succ, List.map_append, List.map_append]
          rfl
    · rintro acc D H' hD f hp rfl _
      exact q _ _ hD (frM_nil f) (by simpa using hp)
end
section
variable {P : Program} {w : World} {K : PySem.W.Frag} {mg : Str → Option Value} {base : Heap}
theorem joinsOf_len {α : Type} (ds : List (Deed α)) : (joinsOf ds).length ≤ ds.length := by
  induction ds with
  | nil => exact Nat.le_refl _
  | cons d r ih => cases d <;> simp only [joinsOf, List.length_cons] <;> omega
theorem hist_joins {ns : List Str} {ds : List (Deed Str)} {k : Sk Str} (h : Hist ns ds k) : ∀ r ∈ joinsOf ds, r.1 ∈ ns ∧ r.2.1 ∈ ns := by
  have e1 : ∀ {o p : Str} {s : Int} {c : Option Str}, joinsOf [Deed.join o p s c] = [(o, p, s)] := rfl
  have e2 : ∀ {n : Str} {v w : Int}, joinsOf [Deed.weigh n v w] = [] := rfl
  induction h with
  | nil => intro r hr; cases hr
  | weigh _ _ ih => intro r hr; rw [joinsOf_append, e2, List.append_nil] at hr; exact ih r hr
  | known _ ho hp _ ih =>
    intro r hr
    rw [joinsOf_append, e1, List.mem_append, List.mem_singleton] at hr
    rcases hr with hr | rfl
    · exact ih r hr
    · exact ⟨ho, hp⟩
  | joined _ ho hp _ _ ih =>
    intro r hr
    rw [joinsOf_append, e1, List.mem_append, List.mem_singleton] at hr
    rcases hr with hr | rfl
    · exact ih r hr
    · exact ⟨ho, hp⟩
theorem hist_names {ns : List Str} {ds : List (Deed Str)} {k : Sk Str} (h : Hist ns ds k) : ∀ d ∈ ds, match d with | .join o p _ _ => o ∈ ns ∧ p ∈ ns | .weigh n _ _ => n ∈ ns := by
  have key : ∀ {ds : List (Deed Str)} {e : Deed Str}, (∀ d ∈ ds, match d with | .join o p _ _ => o ∈ ns ∧ p ∈ ns | .weigh n _ _ => n ∈ ns) → (match e with | .join o p _ _ => o ∈ ns ∧ p ∈ ns | .weigh n _ _ => n ∈ ns) → ∀ d ∈ ds ++ [e], match d with | .join o p _ _ => o ∈ ns ∧ p ∈ ns | .weigh n _ _ => n ∈ ns := by
    intro ds e ih he d hd
    rcases List.mem_append.mp hd with h | h
    · exact ih d h
    · rw [List.mem_singleton] at h; subst h; exact he
  induction h with
  | nil => intro d hd; cases hd
  | weigh _ hn ih => exact key ih hn
  | known _ ho hp _ ih => exact key ih ⟨ho, hp⟩
  | joined _ ho hp _ _ ih => exact key ih ⟨ho, hp⟩
theorem fl_encD4 {ns : List Str} {ds : List (Deed Str)} {k : Sk Str} (h : Hist ns ds k) (hn : ∀ n ∈ ns, IsNm n) : ∀ d ∈ ds, ∀ v ∈ encD4 d, flV v = true := by
  intro d hd v hv
  have := hist_names h d hd
  cases d with
  | join o p s c =>
    simp only [encD4, List.mem_cons, List.not_mem_nil, or_false] at hv
    rcases hv with rfl | rfl | rfl | rfl
    · decide +kernel
    · exact (hn _ this.1).ok
    · exact (hn _ this.2).ok
    · rfl
  | weigh n w old =>
    simp only [encD4, List.mem_cons, List.not_mem_nil, or_false] at hv
    rcases hv with rfl | rfl | rfl
    · decide +kernel
    · exact (hn _ this).ok
    · rfl
theorem fl_encR {ns : List Str} {rs : List (Str × Str × Int)} (h : ∀ r ∈ rs, r.1 ∈ ns ∧ r.2.1 ∈ ns) (hn : ∀ n ∈ ns, IsNm n) : ∀ r ∈ rs, ∀ v ∈ encR r, flV v = true := by
  intro r hr v hv
  simp only [encR, List.mem_cons, List.not_mem_nil, or_false] at hv
  rcases hv with rfl | rfl | rfl
  · exact (hn _ (h r hr).1).ok
  · exact (hn _ (h r hr).2).ok
  · rfl
def wOf (n : Str) (d : Deed Str) : Option Int := match d with | .weigh m v _ => if m = n then some v else none | _ => none
theorem weightOf_w (ds : List (Deed Str)) (n : Str) : weightOf ds n = (ds.filterMap (wOf n)).getLastD 0 := by
  unfold weightOf
  congr 2
  funext d
  cases d <;> rfl
/-- told apart from a stack -/
def Off (a : SkA) (x m : Addr) : Prop := ¬ m ∈ a.mut x ∧ m ≠ a.ord
structure BkAt (K : PySem.W.Frag) (H : Hp) (x nl dl rl wd : Addr) (ns : List Str) (sp : Str → Int) (turn : Int) (a : SkA) (ds : List (Deed Str)) (k : Sk Str) : Prop where
  st : StackAt K H x ns sp turn a ds k
  hnl : H nl = some (.lst (ns.map V.str))
  hdl : ∃ ws, H dl = some (.lst ws) ∧ Tups H encD4 ws ds
  hrl : ∃ rs, H rl = some (.lst rs) ∧ Tups H encR rs (joinsOf ds)
  hwd : H wd = some (.dK (dmap ns fun n => .int (k.we n)))
structure BkOff (a : SkA) (x nl dl rl wd : Addr) : Prop where
  onl : Off a x nl
  odl : Off a x dl
  orl : Off a x rl
  owd : Off a x wd
  nd : nl ≠ dl
  nr : nl ≠ rl
  dr : dl ≠ rl
theorem StackAt.insx {K : PySem.W.Frag} {H : Hp} {x : Addr} {ns : List Str} {sp : Str → Int} {turn : Int} {a : SkA} {ds : List (Deed Str)} {k : Sk Str} (S : StackAt K H x ns sp turn a ds k) : ∃ fs, H x = some (.ins (gA K "Stack") a.dx fs) ∧ NoM stackKeys fs := by
  obtain ⟨ri, U⟩ := S.up
  obtain ⟨fs, I⟩ := U.ins
  exact ⟨fs, I.h, I.nm⟩
theorem BkAt.same {K : PySem.W.Frag} {H H' : Hp} {x nl dl rl wd : Addr} {ns : List Str} {sp : Str → Int} {turn : Int} {a : SkA} {ds : List (Deed Str)} {k : Sk Str} (S : BkAt K H x nl dl rl wd ns sp turn a ds k) (e : Same H H') : BkAt K H' x nl dl rl wd ns sp turn a ds k := by
  obtain ⟨ws, h1, t1⟩ := S.hdl
  obtain ⟨rs, h2, t2⟩ := S.hrl
  exact ⟨S.st.same e, e _ _ S.hnl, ⟨ws, e _ _ h1, t1.stay (Same.tups e)⟩, ⟨rs, e _ _ h2, t2.stay (Same.tups e)⟩, e _ _ S.hwd⟩
/-- a change of one object that a stack knows nothing of -/
theorem StackAt.offOne {K : PySem.W.Frag} {H H' : Hp} {x m : Addr} {ns : List Str} {sp : Str → Int} {turn : Int} {a : SkA} {ds : List (Deed Str)} {k : Sk Str} (S : StackAt K H x ns sp turn a ds k) (f : Fr1 m H H') (o : Off a x m) (t : TupS H H') : StackAt K H' x ns sp turn a ds k :=
  S.stay (fun b u h q => f _ _ h (by
    rcases q with q | q
    · exact fun z => o.1 (z ▸ q)
    · exact fun z => o.2 (z.symm.trans q))) t
def sp_back_right (K : PySem.W.Frag) : Sp := fun vs H Q _ => ∃ (x nl dl rl wd : Addr) (ns : List Str) (sp : Str → Int) (turn : Int) (a : SkA) (ds : List (Deed Str)) (k : Sk Str), vs = [.ref x, .ref nl, .ref dl, .ref rl, .ref wd] ∧ BkAt K H x nl dl rl wd ns sp turn a ds k ∧ BkOff a x nl dl rl wd ∧ ns.Nodup ∧ (∀ n ∈ ns, IsNm n) ∧ ∀ H', Q (.bl true) H'
abbrev N_law_back_right : List Str := ["_law_stack", "_law_names_here", "_law_deeds", "_law_rows", "_law_weights", "_law_deed", "_law_older", "_law_one", "_law_labels_here", "_law_held", "_law_name", "_law_total"]
theorem sc_law_back_right : FnScope N_law_back_right ["_law_stack", "_law_names_here", "_law_deeds", "_law_rows", "_law_weights"] (defScope s_law_back_right) := ⟨rfl, rfl, rfl, by decide +kernel, rfl, by decide +kernel, by decide +kernel⟩
theorem ok_law_back_right (T : Txt w K mg) : OkF P w K mg base 5 (gA K "_law_back_right") ["_law_stack", "_law_names_here", "_law_deeds", "_law_rows", "_law_weights"] (sp_back_right K) := by
  obtain ⟨fd_Stack_back, c_Stack_back⟩ := ok_Stack_back (P := P) (base := base) T
  obtain ⟨fd_law_labels, c_law_labels⟩ := ok_law_labels (P := P) (base := base) T
  obtain ⟨fd_Stack_deeds, c_Stack_deeds⟩ := ok_Stack_deeds (P := P) (base := base) T
  obtain ⟨fd_Stack_standing, c_Stack_standing⟩ := ok_Stack_standing (P := P) (base := base) T
  obtain ⟨fd_Stack_sum_of, c_Stack_sum_of⟩ := ok_Stack_sum_of (P := P) (base := base) T
  have cl_Stack := Tc_Stack T
  refine okF (Td_law_back_right T) sc_law_back_right (fun _ _ _ _ _ _ us hl => match us, hl with | [_, _, _, _, _], _ => rfl) (fun vs H Q E h => ?_) (fun cdv A outer s H vs Q E hr h => have hu := hu_of hr; ⟨_, (pss_cons (ps_while PassesOwn.never (pt_cmpR (op_neDK K hr.units) (pv 2) (pe_lst pa_nil) (nomark _)) (pss_cons (ps_set (i := 5) sc_law_back_right.nd rfl (by first | exact Or.inl rfl | exact Or.inr rfl) (pe_bm0 PySem.F.plainAttrs_list PySem.F.slot_list_pop PySem.F.type_list_pop mt_pop (pv 2)))
      (pss_cons (ps_if (pt_cmpR (op_neDK K hr.units) (pe_meth0 (pv 0) (Tc_Stack T) (Tm_Stack_back T) c_Stack_back.1 (hr.mono (by decide)) c_Stack_back.2.1 .nil pass0) (pv 5) (nomark _)) (pss_one (ps_ret pe_bl)) pss_nil)
      (pss_cons (ps_if (pt_cmpR op_eq (pe_ix (ix_tupK K) (pv 5) pe_int (fun _ _ => rfl)) pe_str (nomark _)) (pss_one (ps_expr (pe_bm0 PySem.F.plainAttrs_list PySem.F.slot_list_pop PySem.F.type_list_pop mt_pop (pv 3)))) (pss_cons (ps_setLc (i := 6) (own := [("_law_one", 7)]) rfl sc_law_back_right.nd rfl rfl (sw_true rfl rfl rfl (by decide +kernel)) (pi_list (pv 2)) (blkOk_by (N := N_law_back_right) (sc := defScope s_law_back_right) (by decide +kernel)) (fun _ _ _ _ _ => (pg_name (i := 7) sc_law_back_right.nd rfl (by first | exact Or.inl rfl | exact Or.inr rfl))) (fun _ _ _ _ _ => (pts_one (PW.pt (pw_and (pt_cmpR op_eq (pe_ix (ix_tupK K) (pv 7) pe_int (fun _ _ => rfl)) pe_str (nomark _)) (pw_and1 (pt_cmpR op_eq (pe_ix (ix_tupK K) (pv 7) pe_int (fun _ _ => rfl)) (pe_ix (ix_tupK K) (pv 5) pe_int (fun _ _ => rfl)) (nomark _))))))) (fun _ _ _ _ _ => (pe_ix (ix_tupK K) (pv 7) pe_int (fun _ _ => rfl))))
      (pss_one (ps_dput hu (pv 4) (pe_ix (ix_tupK K) (pv 5) pe_int (fun _ _ => rfl)) (pe_ifExp (pt_cmpR (op_neDK K hr.units) (pv 6) (pe_lst pa_nil) (nomark _)) (pe_ix (ix_listK K) (pv 6) (pe_un un_neg pe_int) (fun _ _ => rfl)) pe_int) rfl))))
      (pss_one (ps_if (pt_cmpR op_eq (pe_op op_modN (pe_callB (call_lenJ K) (by rfl) (Tf_len T) (by decide +kernel) (pa_cons (pv 2) pa_nil)) pe_int) pe_int (nomark _)) (pss_cons (ps_asg (pe_call c_law_labels.1 (hr.mono (by decide)) rfl (Tg_law_labels T) c_law_labels.2.2 c_law_labels.2.1 .nil pass0 (pa_cons (pv 1) (pa_cons (pv 3) pa_nil))) (pg_tupK K (n := 2) rfl (pgs_cons (pg_name (i := 8) sc_law_back_right.nd rfl (by first | exact Or.inl rfl | exact Or.inr rfl)) (pgs_cons (pg_name (i := 9) sc_law_back_right.nd rfl (by first | exact Or.inl rfl | exact Or.inr rfl)) pgs_nil))))
      (pss_one (ps_for PassesOwn.never rfl (pi_list (pv 1)) (pg_name (i := 10) sc_law_back_right.nd rfl (by first | exact Or.inl rfl | exact Or.inr rfl))
      (pss_cons (ps_set (i := 11) sc_law_back_right.nd rfl (by first | exact Or.inl rfl | exact Or.inr rfl) (pe_callB (cr_sum rfl) (by rfl) (Tf_sum T) (by decide +kernel) (pa_cons (pe_lc (own := [("_law_one", 7)]) rfl sc_law_back_right.nd (pi_list (pv 1)) (blkOk_by (N := N_law_back_right) (sc := defScope s_law_back_right) (by decide +kernel)) (fun _ _ _ _ _ => (pg_name (i := 7) sc_law_back_right.nd rfl (by first | exact Or.inl rfl | exact Or.inr rfl))) (fun _ _ _ _ _ => (pts_one (pt_cmpR op_eq (pe_dget hu (pv 8) (pv 7) (fun _ _ => rfl)) (pe_dget hu (pv 8) (pv 10) (fun _ _ => rfl)) (nomark _)))) (fun _ _ _ _ _ => (pe_dget hu (pv 4) (pv 7) (fun _ _ => rfl)))) pa_nil)))
      (pss_one (ps_if (PW.pt (pw_or (pt_cmpR op_ne (pe_meth (pv 0) (Tc_Stack T) (Tm_Stack_sum_of T) c_Stack_sum_of.1 (hr.mono (by decide)) c_Stack_sum_of.2.1 .nil pass0 (pa_cons (pv 10) pa_nil)) (pv 11) (nomark _)) (pw_or (pt_cmpR (op_neDK K hr.units) (pe_meth0 (pv 0) (Tc_Stack T) (Tm_Stack_standing T) c_Stack_standing.1 (hr.mono (by decide)) c_Stack_standing.2.1 .nil pass0) (pv 3) (nomark _)) (pw_or1 (pt_cmpR (op_neDK K hr.units) (pe_meth0 (pv 0) (Tc_Stack T) (Tm_Stack_deeds T) c_Stack_deeds.1 (hr.mono (by decide)) c_Stack_deeds.2.1 .nil pass0) (pv 2) (nomark _)))))) (pss_one (ps_ret pe_bl)) pss_nil)))))) pss_nil))))))
      (pss_one (ps_ret (pe_and (pe_cmp (pc_isN (pe_meth0 (pv 0) (Tc_Stack T) (Tm_Stack_back T) c_Stack_back.1 (hr.mono (by decide)) c_Stack_back.2.1 .nil pass0)) rfl) (pe_one (pe_cmpR (op_eqDK K hr.units) (pe_meth0 (pv 0) (Tc_Stack T) (Tm_Stack_standing T) c_Stack_standing.1 (hr.mono (by decide)) c_Stack_standing.2.1 .nil pass0) (pe_lst pa_nil) (nomark _))))))), ?_⟩)
  · obtain ⟨x, nl, dl, rl, wd, ns, sp, turn, a, ds, k, rfl, _⟩ := h
    rfl
  · obtain ⟨x, nl, dl, rl, wd, ns, sp, turn, a, ds, k, rfl, B, O, nd, hnm, q⟩ := h
    walk_at "jrd"
    refine w_while (fun m σ H2 => ∃ (ds : List (Deed Str)) (k : Sk Str) (v1 v2 v3 v4 v5 v6 v7 : Option V), σ = [some (.ref x), some (.ref nl), some (.ref dl), some (.ref rl), some (.ref wd), v1, v2, v3, v4, v5, v6, v7] ∧ BkAt K H2 x nl dl rl wd ns sp turn a ds k ∧ m = ds.length)
      ⟨_, ds, k, _, _, _, _, _, _, _, rfl, B, rfl⟩ ?_
    clear B ds k
    rintro m σ H2 ⟨ds, k, v1, v2, v3, v4, v5, v6, v7, rfl, B, rfl⟩
    have S := B.st
    have hns : ns.length < 64 := S.fewn
    obtain ⟨ws, hdl, tdl⟩ := B.hdl
    obtain ⟨rs, hrl, trl⟩ := B.hrl
    have hnl := B.hnl
    have hwd := B.hwd
    have hist := S.hist
    have fl1 := fl_encD4 hist hnm
    walk_at "jrd"
    refine r_neNil (dp_tups (he _ _ hdl) (tdl.stay (Same.tups he)) fl1) (ly_tups fl1) (by decide) hp ?_
    walk_at "jrd"
    rcases nil_or_snoc ds with rfl | ⟨ds', d, rfl⟩
    · refine ite_F rfl ?_
      have S1 := S.same he
      obtain ⟨fs, i1, i2⟩ := S1.insx
      walk_at "jrd"
      refine ⟨x, ns, sp, turn, a, [], k, rfl, S1, fun _ => ?_, fun ds' d z => absurd z (by simp)⟩
      walk_at "jrd"
      refine ite_T (by simp) ?_
      walk_at "jrd"
      refine ⟨x, ns, sp, turn, a, [], k, rfl, S1, fun p2 vs' H3 e3 hn3 hp3 hT => ?_⟩
      have ev : vs' = [] := List.length_eq_zero_iff.mp hT.1
      subst ev
      walk_at "jrd"
      refine r_eqNil (dp_nil (he_1 _ _ hp3)) (n := 1) ⟨rfl, by decide⟩ (by decide) hp_1 ?_
      exact q _
    · refine ite_T (by simp) ?_
      obtain ⟨ws', t, rfl, tdl', ht⟩ := tdl.unsnoc
      refine ⟨_, fun _ _ h => h, ?_⟩
      obtain ⟨fs, i1, i2⟩ := S.insx
      have hdl1 := he _ _ hdl
      walk_at "jrd"
      have tt1 : TupS H2 H'_1 := (Same.tups he).trans (Fr1.tups hf hdl1 (by intro xs z; cases z))
      have S1 := (S.same he).offOne hf O.odl (Fr1.tups hf hdl1 (by intro xs z; cases z))
      refine ⟨x, ns, sp, turn, a, ds' ++ [d], k, rfl, S1, fun z => absurd z (by simp), fun ds2 d2 z q2 H3 k' f3 S3 h3 => ?_⟩
      obtain ⟨z1, z2⟩ := List.append_inj' z rfl
      have z3 : d = d2 := by simpa using z2
      subst z1 z3
      clear z z2
      have tup3 : TupS H'_1 H3 := f3.tups S1.noTup
      have ht3 : H3 t = some (.tup (encD4 d)) := tup3 _ _ (tt1 _ _ ht)
      have fld : ∀ v ∈ encD4 d, flV v = true := fl1 d (by simp)
      walk_at "jrd"
      refine r_neSame (dp_tup h3 fld) (dp_tup ht3 fld) (ly_tup fld) (by decide) ?_
      walk_at "jrd"
      refine ite_F rfl ?_
      have hdl3 : H3 dl = some (.lst ws') := f3 _ _ hp_1 O.odl.1
      have nrd : rl ≠ dl := O.dr.symm
      have hrl3 : H3 rl = some (.lst rs) := f3 _ _ (hf _ _ (he _ _ hrl) nrd) O.orl.1
      have trl3 : Tups H3 encR rs (joinsOf (ds' ++ [d])) := trl.stay (tt1.trans tup3)
      have hwd3 : H3 wd = _ := f3 _ _ (hf _ _ (he _ _ hwd) (ne_of (he _ _ hwd) hdl1 (by intro z; cases z))) O.owd.1
      have hnl3 : H3 nl = _ := f3 _ _ (hf _ _ (he _ _ hnl) O.nd) O.onl.1
      have tdl3 : Tups H3 encD4 ws' ds' := tdl'.stay (tt1.trans tup3)
      have hist3 := S3.hist
      have l' : joinsOf (ds' ++ [d]) = joinsOf ds' ++ joinsOf [d] := joinsOf_append _ _
      refine w_next ?_
      dsimp only
      refine w_seqK (fun σ H4 => ∃ (v1 v2 v3 v4 v5 v6 v7 : Option V), σ = [some (.ref x), some (.ref nl), some (.ref dl), some (.ref rl), some (.ref wd), v1, v2, v3, v4, v5, v6, v7] ∧ BkAt K H4 x nl dl rl wd ns sp turn a ds' k') (fun σ H4 => ?_) (fun key => ?_)
      · rintro ⟨v1, v2, v3, v4, v5, v6, v7, rfl, B4⟩
        clear hdl3 hrl3 trl3 hwd3 hnl3 tdl3 ht3 h3 f3 tup3 S1 tt1 hf hp_1 he hp hdl1 i1 i2 hdl hrl hnl hwd tdl trl ht hn
        obtain ⟨ws4, hdl, tdl⟩ := B4.hdl
        obtain ⟨rs4, hrl, trl⟩ := B4.hrl
        have hnl := B4.hnl
        have hwd := B4.hwd
        have ld := tdl.1
        have lr := trl.1
        have lj := joinsOf_len ds'
        have few := S3.few
        walk_at "jrd"
        refine r_I (by decide) ?_
        walk_at "jrd"
        have done : ∀ (H5 : Hp) (v1 v2 v3 v4 v5 v6 v7 : Option V), Same H4 H5 → ∃ m', m' < (ds' ++ [d]).length ∧ ∃ ds k u1 u2 u3 u4 u5 u6 u7, [some (V.ref x), some (.ref nl), some (.ref dl), some (.ref rl), some (.ref wd), v1, v2, v3, v4, v5, v6, v7] = [some (V.ref x), some (.ref nl), some (.ref dl), some (.ref rl), some (.ref wd), u1, u2, u3, u4, u5, u6, u7] ∧ BkAt K H5 x nl dl rl wd ns sp turn a ds k ∧ m' = ds.length :=
          fun H5 v1 v2 v3 v4 v5 v6 v7 e => ⟨ds'.length, by simp, ds', k', _, _, _, _, _, _, _, rfl, B4.same e, rfl⟩
        refine ite_of (fun _ => ?_) (fun _ => ?_)
        · walk_at "jrd"
          refine ⟨_, encR, fun r => (r.1, r.2.1), nl, rl, ns, rs4, joinsOf ds', rfl, hnl, hrl, trl, fun r => ⟨_, rfl⟩, hist_joins hist3, nd, by omega, by omega, fun p5 d5 l5 H5 e5 _ _ _ h5p h5d h5l => ?_⟩
          rw [← labR_P] at h5d
          walk_at "jrd"
          have d5' := h5d
          have flR := fl_encR (hist_joins hist3) hnm
          have flD := fl_encD4 hist3 hnm
          refine loop_list (xs := ns.map V.str) (fun j σ H6 => Same H5 H6 ∧ ∃ (v5 v6 v7 v8 v9 : Option V), σ = [some (.ref x), some (.ref nl), some (.ref dl), some (.ref rl), some (.ref wd), v5, v6, v7, some (.ref d5), some (.ref l5), v8, v9]) ⟨Same.refl _, _, _, _, _, _, rfl⟩ (fun j σ H6 _ p => p.1 _ _ (e5 _ _ hnl)) ?_ ?_
          · rintro j y σ H6 hj ⟨e6, v5, v6, v7, v8, v9, rfl⟩
            rw [List.getElem?_map, Option.map_eq_some_iff] at hj
            obtain ⟨n, hn', rfl⟩ := hj
            have hnn : n ∈ ns := List.mem_of_getElem? hn'
            have e46 := e5.trans e6
            have g1 := e46 _ _ hnl
            have g2 := e46 _ _ hwd
            have g3 := e6 _ _ h5d
            have e6' := e6
            clear e6 e5 h5d h5l h5p
            walk_at "jrd"
            refine lc_M [] walk_list (fun H' f => SqL.of (frM_nil f _ _ g1)) (by simp; omega) (by simp) (fun i acc H' => acc = (((ns.take i).filter fun m => labR (joinsOf ds') m = labR (joinsOf ds') n).map k'.we).map V.int) rfl (fun i acc H1 H2 p t m => p) ?_ ?_
            · rintro i y acc H7 H7' KY KN hi rfl f7 ⟨rfl, hy⟩ hacc hY hN
              rw [List.getElem?_map, Option.map_eq_some_iff] at hy
              obtain ⟨m, hm, rfl⟩ := hy
              have hmn : m ∈ ns := List.mem_of_getElem? hm
              have f7' := frM_nil f7
              clear f7
              walk_at "jrd"
              refine ⟨rfl, ?_⟩
              walk_at "jrd"
              rw [take_more hm, List.filter_append, List.map_append, List.map_append] at hY hN
              refine ite_of (fun z => ?_) (fun z => ?_)
              · walk_at "jrd"
                exact hY _ _ (FrM.refl _ _) (by simp [z])
              · exact hN _ (FrM.refl _ _) (by simp [z])
            · rintro acc D' H7 hD f7 hp7 rfl _
              rw [List.length_map, List.take_length] at hp7
              have f7' := frM_nil f7
              clear f7
              have B7 := (B4.same e46).same f7'
              have S7 := B7.st
              obtain ⟨fs7, i1, i2⟩ := S7.insx
              walk_at "jrd"
              refine ⟨x, n, ns, sp, turn, a, ds', k', rfl, S7, hnn, fun H8 e8 => ?_⟩
              walk_at "jrd"
              have es : (ns.filter fun m => k'.rt m = k'.rt n) = ns.filter fun m => labR (joinsOf ds') m = labR (joinsOf ds') n := by
                refine List.filter_congr fun m _ => ?_
                rw [decide_eq_decide]
                exact hist3.lab m n
              rw [es]
              refine ite_F (by simp) ?_
              have B8 := B7.same e8
              have S8 := B8.st
              clear i1 i2
              obtain ⟨fs8, i1, i2⟩ := S8.insx
              walk_at "jrd"
              refine ⟨x, ns, sp, turn, a, ds', k', rfl, S8, fun p9 vs9 H9 e9 hn9 hp9 hT9 => ?_⟩
              have B9 := B8.same e9
              have S9 := B9.st
              obtain ⟨rs9, hrl9, trl9⟩ := B9.hrl
              obtain ⟨ws9, hdl9, tdl9⟩ := B9.hdl
              clear i1 i2
              obtain ⟨fs9, i1, i2⟩ := S9.insx
              walk_at "jrd"
              refine r_neSame (dp_tups hp9 hT9 flR) (dp_tups hrl9 trl9 flR) (ly_tups flR) (by decide) ?_
              walk_at "jrd"
              refine ite_F rfl ?_
              walk_at "jrd"
              refine ⟨x, ns, sp, turn, a, ds', k', rfl, S9, fun p10 vs10 H10 e10 hn10 hp10 hT10 => ?_⟩
              walk_at "jrd"
              refine r_neSame (dp_tups hp10 hT10 flD) (dp_tups (e10 _ _ hdl9) (tdl9.stay (Same.tups e10)) flD) (ly_tups flD) (by decide) ?_
              walk_at "jrd"
              refine ite_F rfl ?_
              walk_at "jrd"
              exact ⟨(((e6'.trans f7').trans e8).trans e9).trans e10, _, _, _, _, _, rfl⟩
          · rintro σ H6 ⟨e6, v5, v6, v7, v8, v9, rfl⟩
            exact done H6 _ _ _ _ _ _ _ (e5.trans e6)
        · walk_at "jrd"
          exact done H4 _ _ _ _ _ _ _ (Same.refl _)
      · cases d with
        | join o p' st c =>
          unfold encD4 at ht3
          walk_at "jrd"
          refine ite_T (by decide) ?_
          obtain ⟨rs', t2, rfl, trl', ht2⟩ := Tups.unsnoc (xs := joinsOf ds') (x := (o, p', st)) (by rw [l'] at trl3; exact trl3)
          walk_at "jrd"
          refine key _ _ ⟨_, _, _, _, _, _, _, rfl, ?_⟩
          have tup4 : TupS H3 H'_2 := Fr1.tups hf_1 hrl3 (by intro xs z; cases z)
          exact ⟨S3.offOne hf_1 O.orl tup4, hf_1 _ _ hnl3 O.nr, ⟨ws', hf_1 _ _ hdl3 O.dr, tdl3.stay tup4⟩, ⟨rs', hp_2, trl'.stay tup4⟩, by
            rw [hf_1 _ _ hwd3 (ne_of hwd3 hrl3 (by intro z; cases z))]
            congr 2
            exact dmap_congr fun n _ => by rw [hist.weight, hist3.weight]; unfold weightOf; rw [List.filterMap_append]; simp⟩
        | weigh n v old =>
          unfold encD4 at ht3
          walk_at "jrd"
          refine ite_F (by decide) ?_
          have hnn : n ∈ ns := hist_names hist (.weigh n v old) (by simp)
          have ld := tdl3.1
          have few := S3.few
          walk_at "jrd"
          refine lc_M [] walk_list (fun H' f => SqL.of (frM_nil f _ _ hdl3)) (by omega) (by simp) (fun i acc H' => acc = ((ds'.take i).filterMap (wOf n)).map V.int) rfl (fun i acc H1 H2 p t m => p) ?_ ?_
          · rintro i y acc H5 H5' KY KN hi rfl f5 ⟨rfl, hy⟩ hacc hY hN
            have e5 := frM_nil f5
            obtain ⟨e, t', he', rfl, ht'⟩ := (tdl3.stay (Same.tups e5)).2 i y hy
            rw [take_more he', List.filterMap_append, List.map_append] at hY hN
            clear f5
            cases e with
            | join o2 p2 s2 c2 =>
              unfold encD4 at ht'
              walk_at "jrd"
              refine ⟨rfl, ?_⟩
              walk_at "jrd"
              refine ite_F (by decide) (ite_F rfl (hN _ (FrM.refl _ _) (by simp [wOf])))
            | weigh m2 v2 old2 =>
              unfold encD4 at ht'
              walk_at "jrd"
              refine ⟨rfl, ?_⟩
              walk_at "jrd"
              refine ite_T (by decide) ?_
              walk_at "jrd"
              refine ite_of (fun z => ?_) (fun z => ?_)
              · walk_at "jrd"
                exact hY _ _ (FrM.refl _ _) (by simp [wOf, z])
              · exact hN _ (FrM.refl _ _) (by simp [wOf, z])
          · rintro acc D' H5 hD f5 hp5 rfl _
            have e5 := frM_nil f5
            clear f5
            rw [List.take_of_length_le (by omega)] at hp5
            have fl5 : ∀ v ∈ ((ds'.filterMap (wOf n)).map V.int), flV v = true := by
              intro v hv
              obtain ⟨i, _, rfl⟩ := List.mem_map.mp hv
              rfl
            have fin : ∀ (H6 : Hp) (σ6 : List (Option V)), Same H3 H6 → ∀ H7, Fr1 wd H6 H7 → H7 wd = some (.dK (dmap ns (setF (fun n => V.int (k.we n)) n (.int (weightOf ds' n))))) → BkAt K H7 x nl dl rl wd ns sp turn a ds' k' := by
              intro H6 σ6 e6 H7 f7 h7
              have tup7 : TupS H3 H7 := (Same.tups e6).trans (Fr1.tups f7 (e6 _ _ hwd3) (by intro xs z; cases z))
              have u6 := S3.same e6
              refine ⟨u6.offOne f7 O.owd (Fr1.tups f7 (e6 _ _ hwd3) (by intro xs z; cases z)), f7 _ _ (e6 _ _ hnl3) (ne_of (e6 _ _ hnl3) (e6 _ _ hwd3) (by intro z; cases z)), ⟨ws', f7 _ _ (e6 _ _ hdl3) (ne_of (e6 _ _ hdl3) (e6 _ _ hwd3) (by intro z; cases z)), tdl3.stay tup7⟩, ⟨rs, f7 _ _ (e6 _ _ hrl3) (ne_of (e6 _ _ hrl3) (e6 _ _ hwd3) (by intro z; cases z)), ?_⟩, ?_⟩
              · have e : joinsOf (ds' ++ [Deed.weigh n v old]) = joinsOf ds' := by rw [l']; exact List.append_nil _
                rw [e] at trl3
                exact trl3.stay tup7
              · rw [h7, setF_int]
                congr 2
                refine dmap_congr fun m _ => ?_
                congr 1
                by_cases z : m = n
                · subst z; rw [sf_same, hist3.weight]
                · rw [sf_ne _ _ z, hist.weight, hist3.weight, weightOf_w, weightOf_w, List.filterMap_append]
                  simp [wOf, Ne.symm z]
            walk_at "jrd"
            refine r_neNil (dp_lst (he_1 _ _ hp5) fl5) (ly_lst fl5) (by decide) hp_2 ?_
            walk_at "jrd"
            have hw := weightOf_w ds' n
            rcases nil_or_snoc (ds'.filterMap (wOf n)) with e | ⟨l, u, e⟩
            · rw [e] at hw ⊢
              refine ite_F rfl ?_
              walk_at "jrd"
              refine key _ _ ⟨_, _, _, _, _, _, _, rfl, fin H'_2 [] (e5.trans he_1) H'_3 hf_1 ?_⟩
              rw [hw]; exact hp_3
            · rw [e, List.map_append] at hp5
              have hu : weightOf ds' n = u := by rw [hw, e]; simp
              rw [e]
              refine ite_T (by simp) ?_
              walk_at "jrd"
              refine key _ _ ⟨_, _, _, _, _, _, _, rfl, fin H'_2 [] (e5.trans he_1) H'_3 hf_1 ?_⟩
              rw [hu]; exact hp_3
end
section
variable {P : Program} {w : World} {K : PySem.W.Frag} {mg : Str → Option Value} {base : Heap}
/-! ### draws -/
theorem r_draw {H : Hp} {Q : VK} {E : XK} {t : Addr} {m : Int} {b : Nat} (T : Tape H t b) (hm : 0 < m) (h64 : m < 2 ^ 64) (hb : b ≤ 1000000) (k : ∀ (r : Int) (H' : Hp), 0 ≤ r → r < m → Fr1 t H H' → Tape H' t (b + 1) → Q (.int r) H') : sp_draw [.ref t, .int m] H Q E :=
  ⟨t, m, b, rfl, T, hm, h64, hb, k⟩
theorem pick {ns : List Str} {r : Int} (h0 : 0 ≤ r) (h1 : r < (ns.length : Int)) : ∃ n, n ∈ ns ∧ ns[r.toNat]? = some n ∧ atI (ns.map V.str) r = some (.str n) := by
  obtain ⟨j, rfl⟩ := Int.eq_ofNat_of_zero_le h0
  have hj : j < ns.length := by omega
  refine ⟨ns[j], List.getElem_mem hj, by simp [hj], ?_⟩
  exact atI_nat (by simp [hj])
theorem pickV {xs : List V} {r : Int} (h0 : 0 ≤ r) (h1 : r < (xs.length : Int)) : ∃ v, xs[r.toNat]? = some v ∧ atI xs r = some v := by
  obtain ⟨j, rfl⟩ := Int.eq_ofNat_of_zero_le h0
  have hj : j < xs.length := by omega
  exact ⟨xs[j], by simp [hj], atI_nat (by simp [hj])⟩
theorem pickI {is : List Int} {r : Int} (h0 : 0 ≤ r) (h1 : r < (is.length : Int)) : ∃ i, i ∈ is ∧ atI (is.map V.int) r = some (.int i) := by
  obtain ⟨j, rfl⟩ := Int.eq_ofNat_of_zero_le h0
  have hj : j < is.length := by omega
  exact ⟨is[j], List.getElem_mem hj, atI_nat (by simp [hj])⟩
section
variable {K : PySem.W.Frag} {σ : L2.St} {H : Hp} {Q : VK}
/-- dict([(name, draw(m)) for name in names]) -/
theorem lc_draw {a t : Addr} {ns : List Str} {j : Nat} {vs : List Nat} {te : TE} {b : Nat} (h : H a = some (.lst (ns.map V.str))) (nt : a ≠ t) (nd : ns.Nodup) (hz : ns.length ≤ 1000) (T : Tape H t b) (hb : b ≤ 100000)
    (hw : ∀ n : Str, wipe ((wipe σ vs).set j (some (.str n))) vs = wipe σ vs ∧ ((wipe σ vs).set j (some (.str n)))[j]? = some (some (.str n)))
    (he : ∀ n H' Q b', n ∈ ns → Tape H' t b' → b' ≤ 1000000 → (∀ (r : Int) H2, Fr1 t H' H2 → Tape H2 t (b' + 1) → Q (.int r) H2) → te ((wipe σ vs).set j (some (.str n))) H' Q)
    (k : ∀ p H' (f : Str → Int), (hn : H p = none) → (he : FrM [t] H H') → Tape H' t (b + ns.length) → (hp : H' p = some (.dK (dmap ns fun n => .int (f n)))) → Q (.ref p) H') :
    LcAt (Itl K a) (gName j) tYes (tTup (tCons (tVar j) (tCons te tNil))) vs σ (fun x H1 => tNil σ H1 fun xs H2 => jDictP K (x :: xs) H2 Q) H := by
  have nt' : ¬ a ∈ [t] := by simpa using nt
  obtain ⟨xt, ht⟩ := T.some
  refine lc_M [t] walk_list (fun H' g => SqL.of (g _ _ h nt')) (by simp; omega) (by simp [ht]) (fun i acc H' => ∃ f : Str → Int, Tups H' (fun n : Str => [.str n, .int (f n)]) acc (ns.take i) ∧ Tape H' t (b + i)) ⟨fun _ => 0, Tups.nil, T⟩ (fun i acc H1 H2 ⟨f, p, q⟩ t m => ⟨f, p.stay t, q.stay fun o ho => by rw [m _ (by simp)]; exact ho⟩) ?_ ?_
  · rintro i y acc H1 H1' KY KN hi ⟨f, p1, q1⟩ f1 ⟨rfl, hy⟩ hacc hY hN
    rw [List.getElem?_map, Option.map_eq_some_iff] at hy
    obtain ⟨n, hm, rfl⟩ := hy
    have hi' : i < ns.length := (List.getElem?_eq_some_iff.mp hm).1
    refine ⟨(hw n).1, w_tyes (ite_T rfl ?_)⟩
    refine ⟨_, (hw n).2, he n H1' _ (b + i) (List.mem_of_getElem? hm) q1 (by omega) fun r H2 f2 T2 => ?_⟩
    obtain ⟨x1, h1⟩ := q1.some
    obtain ⟨x2, h2⟩ := T2.some
    refine ⟨sz _ (by simp), fun p hp => hY (.ref p) (upd H2 p (.tup [.str n, .int r])) ?_ ⟨fun m => if m ∈ ns.take i then f m else r, ?_, ?_⟩⟩
    · exact f2.many.trans (Same.frM (same_new hp))
    · rw [take_more hm]
      have hnot : ¬ n ∈ ns.take i := fun z => by
        obtain ⟨j', hj', hje⟩ := List.mem_iff_getElem.mp z
        rw [List.length_take] at hj'
        have h2 : ns[j']? = some n := by rw [← hje, List.getElem_take]; exact List.getElem?_eq_getElem _
        have h3 := (List.getElem?_inj (by omega) nd).mp (h2.trans hm.symm)
        omega
      refine Tups.snoc ?_ (by show _ = some (HO.tup [V.str n, V.int (if n ∈ ns.take i then f n else r)]); rw [if_neg hnot]; exact upd_same)
      have e : TupS H1' (upd H2 p (.tup [.str n, .int r])) := (Fr1.tups f2 h1 (by intro xs z; cases z)).trans (Same.tups (same_new hp))
      refine ⟨p1.1, fun i2 v hv => ?_⟩
      obtain ⟨x, t', z1, z2, z3⟩ := (p1.stay e).2 i2 v hv
      refine ⟨x, t', z1, z2, ?_⟩
      show _ = some (HO.tup [V.str x, V.int (if x ∈ _ then f x else r)])
      rw [if_pos (List.mem_of_getElem? z1)]; exact z3
    · exact T2.stay fun o ho => same_new hp _ _ ho
  · rintro acc D' H' hD g hp ⟨f, p1, q1⟩ _
    rw [List.take_of_length_le (by simp)] at p1
    rw [List.length_map] at q1
    refine j_dictP hp p1 nd fun p H2 hn e2 h2 => k p H2 f ?_ (g.trans (Same.frM e2)) (q1.same e2) h2
    cases e : H p with
    | none => rfl
    | some o =>
      by_cases z : p ∈ [t]
      · rw [List.mem_singleton] at z; subst z
        obtain ⟨x, hx⟩ := q1.some
        rw [hx] at hn; cases hn
      · rw [g _ _ e z] at hn; cases hn
end
theorem Tape.ne {H : Hp} {t p : Addr} {b : Nat} (T : Tape H t b) (hn : H p = none) : p ≠ t := fun z => by
  obtain ⟨x, h⟩ := T.some
  rw [z, h] at hn; cases hn
end
section
variable {P : Program} {w : World} {K : PySem.W.Frag} {mg : Str → Option Value} {base : Heap}
theorem w_ifK {D : Ends} {σ : L2.St} {H : Hp} {c1 c2 : TT} {t u : TS} (R : Hp → Prop) (h2 : ∀ H, R H → u D σ H) (h1 : (∀ H, R H → Hid (u D) σ H) → c1 σ H fun b H1 => if b = true then c2 σ H1 fun b H2 => if b = true then t D σ H2 else Hid (u D) σ H2 else Hid (u D) σ H1) : tIfS (tAnd c1 c2) t u D σ H := by
  have h := h1 h2
  have e : (fun (b : Bool) (H1 : Hp) => if b = true then c2 σ H1 fun b H2 => if b = true then t D σ H2 else Hid (u D) σ H2 else Hid (u D) σ H1) = fun b H1 => if b = true then c2 σ H1 fun b H2 => if b = true then t D σ H2 else u D σ H2 else (if false = true then t D σ H1 else u D σ H1) := by
    funext b H1
    rw [if_neg Bool.false_ne_true]
    rfl
  rw [e] at h
  exact h
theorem StackAt.off {K : PySem.W.Frag} {H : Hp} {x m : Addr} {ns : List Str} {sp : Str → Int} {turn : Int} {a : SkA} {ds : List (Deed Str)} {k : Sk Str} (S : StackAt K H x ns sp turn a ds k) (h : H m = none) : Off a x m := by
  obtain ⟨ri, U⟩ := S.up
  obtain ⟨fs, I⟩ := U.ins
  obtain ⟨si, hsi⟩ := S.hsi
  obtain ⟨vs, hds, _⟩ := S.hds
  refine ⟨fun hm => ?_, fun z => by rw [z, S.hord] at h; cases h⟩
  simp only [SkA.mut, List.mem_cons, List.not_mem_nil, or_false] at hm
  rcases hm with rfl | rfl | rfl | rfl | rfl | rfl
  · rw [I.h] at h; cases h
  · rw [U.hab] at h; cases h
  · rw [U.hri] at h; cases h
  · rw [hsi] at h; cases h
  · rw [S.hwe] at h; cases h
  · rw [hds] at h; cases h
theorem off_old {H : Hp} {a : SkA} {x m : Addr} {o : HO} (f : ∀ m, m ∈ a.mut x ∨ m = a.ord → m ≠ x → H m = none) (h : H m = some o) (n : m ≠ x) : Off a x m :=
  ⟨fun z => absurd ((f m (.inl z) n).symm.trans h) (by intro q; cases q), fun z => absurd ((f m (.inr z) n).symm.trans h) (by intro q; cases q)⟩
theorem ite_tC {p : Prop} [Decidable p] {σ : L2.St} {H : Hp} {Q : VK} {a b : Str} (k : Q (.str (if p then a else b)) H) : if decide p = true then tC (.str a) σ H Q else tC (.str b) σ H Q := by
  by_cases h : p
  · rw [if_pos h] at k; rw [if_pos (decide_eq_true h)]; exact k
  · rw [if_neg h] at k; rw [if_neg (by simp [h])]; exact k
theorem Tape.fr {H H' : Hp} {t m : Addr} {b : Nat} (T : Tape H t b) (f : Fr1 m H H') (n : t ≠ m) : Tape H' t b := T.stay fun o h => f _ _ h n
theorem BkAt.fr {K : PySem.W.Frag} {H H' : Hp} {x nl dl rl wd t : Addr} {ns : List Str} {sp : Str → Int} {turn : Int} {a : SkA} {ds : List (Deed Str)} {k : Sk Str} {b : Nat} (S : BkAt K H x nl dl rl wd ns sp turn a ds k) (f : Fr1 t H H') (T : Tape H t b) (o : Off a x t) (n1 : nl ≠ t) (n2 : dl ≠ t) (n3 : rl ≠ t) : BkAt K H' x nl dl rl wd ns sp turn a ds k := by
  obtain ⟨ws, h1, t1⟩ := S.hdl
  obtain ⟨rs, h2, t2⟩ := S.hrl
  obtain ⟨xt, ht⟩ := T.some
  have tt : TupS H H' := Fr1.tups f ht (by intro xs z; cases z)
  exact ⟨S.st.offOne f o tt, f _ _ S.hnl n1, ⟨ws, f _ _ h1 n2, t1.stay tt⟩, ⟨rs, f _ _ h2 n3, t2.stay tt⟩, f _ _ S.hwd (ne_of S.hwd ht (by intro z; cases z))⟩
abbrev N_law_stack_right : List Str := ["_law_tape_here", "_law_names_here", "_law_turn", "_law_spots", "_law_name", "_law_stack", "_law_deeds", "_law_rows", "_law_weights", "_law_k", "_law_one", "_law_other", "_law_step", "_law_labels_here", "_law_held", "_law_due", "_law_number"]
theorem sc_law_stack_right : FnScope N_law_stack_right ["_law_tape_here"] (defScope s_law_stack_right) := ⟨rfl, rfl, rfl, by decide +kernel, rfl, by decide +kernel, by decide +kernel⟩
theorem ok_law_stack_right (T : Txt w K mg) : OkF P w K mg base 6 (gA K "_law_stack_right") ["_law_tape_here"] (fun vs H Q _ => ∃ (t : Addr) (b : Nat), vs = [.ref t] ∧ Tape H t b ∧ b ≤ 100 ∧ ∀ H', Q (.bl true) H') := by
  obtain ⟨fd_law_draw, c_law_draw⟩ := ok_law_draw (P := P) (base := base) T
  obtain ⟨fd_law_names, c_law_names⟩ := ok_law_names (P := P) (base := base) T
  obtain ⟨fd_Stack_init, c_Stack_init⟩ := ok_Stack_init (P := P) (base := base) T
  obtain ⟨fd_law_right_step, c_law_right_step⟩ := ok_law_right_step (P := P) (base := base) T
  obtain ⟨fd_law_labels, c_law_labels⟩ := ok_law_labels (P := P) (base := base) T
  obtain ⟨fd_Stack_join, c_Stack_join⟩ := ok_Stack_join (P := P) (base := base) T
  obtain ⟨fd_Stack_weigh, c_Stack_weigh⟩ := ok_Stack_weigh (P := P) (base := base) T
  obtain ⟨fd_Stack_standing, c_Stack_standing⟩ := ok_Stack_standing (P := P) (base := base) T
  obtain ⟨fd_Stack_deeds, c_Stack_deeds⟩ := ok_Stack_deeds (P := P) (base := base) T
  obtain ⟨fd_law_back_right, c_law_back_right⟩ := ok_law_back_right (P := P) (base := base) T
  have cl_Stack := Tc_Stack T
  refine okF (Td_law_stack_right T) sc_law_stack_right (fun _ _ _ _ _ _ us hl => match us, hl with | [_], _ => rfl) (fun vs H Q E h => ?_) (fun cdv A outer s H vs Q E hr h => have hu := hu_of hr; ⟨_, (pss_cons (ps_par (i := 1) (j := 2) (by rfl) sc_law_stack_right.nd rfl rfl (by decide) rfl rfl (pa_cons (pe_call c_law_names.1 (hr.mono (by decide)) rfl (Tg_law_names T) c_law_names.2.2 c_law_names.2.1 .nil pass0 (pa_cons (pe_op op_add pe_int (pe_call c_law_draw.1 (hr.mono (by decide)) rfl (Tg_law_draw T) c_law_draw.2.2 c_law_draw.2.1 .nil pass0 (pa_cons (pv 0) (pa_cons pe_int pa_nil)))) pa_nil)) (pa_cons (pe_ix (ix_listK K) (pe_lst (pa_cons pe_int (pa_cons pe_int (pa_cons pe_int (pa_cons pe_int (pa_cons pe_int pa_nil)))))) (pe_call c_law_draw.1 (hr.mono (by decide)) rfl (Tg_law_draw T) c_law_draw.2.2 c_law_draw.2.1 .nil pass0 (pa_cons (pv 0) (pa_cons pe_int pa_nil))) (fun _ _ => rfl)) pa_nil)) (by rfl))
      (pss_cons (ps_set (i := 3) sc_law_stack_right.nd rfl (by first | exact Or.inl rfl | exact Or.inr rfl) (pe_callTy (call_dictJ K rfl) (by rfl) (Tf_dict T) (by decide +kernel) (pa_cons (pe_lc (own := [("_law_name", 4)]) (tt := tYes) rfl sc_law_stack_right.nd (pi_list (pv 1)) (blkOk_by (N := N_law_stack_right) (sc := defScope s_law_stack_right) (by decide +kernel)) (fun _ _ _ _ _ => (pg_name (i := 4) sc_law_stack_right.nd rfl (by first | exact Or.inl rfl | exact Or.inr rfl))) (fun _ _ _ _ _ => pts_nil) (fun _ _ _ _ _ => (pe_tup (pa_cons (pv 4) (pa_cons (pe_call c_law_draw.1 (hr.mono (by decide)) rfl (Tg_law_draw T) c_law_draw.2.2 c_law_draw.2.1 .nil pass0 (pa_cons (pv 0) (pa_cons (pe_op op_pow pe_int pe_int) pa_nil))) pa_nil))))) pa_nil)))
      (pss_cons (ps_asg (pe_tup (pa_cons (pe_make (Tk_Stack T) c_Stack_init.1 (hr.mono (by decide)) rfl (Tg_Stack T) c_Stack_init.2.1 .nil pass0 (pa_cons (pe_callTy (call_listJ K) (by rfl) (Tf_list T) (by decide +kernel) (pa_cons (pv 1) pa_nil)) (pa_cons (pv 2) pa_nil))) (pa_cons (pe_lst pa_nil) (pa_cons (pe_lst pa_nil) (pa_cons (pe_callTy (call_dictJ K rfl) (by rfl) (Tf_dict T) (by decide +kernel) (pa_cons (pe_lc (own := [("_law_name", 4)]) (tt := tYes) rfl sc_law_stack_right.nd (pi_list (pv 1)) (blkOk_by (N := N_law_stack_right) (sc := defScope s_law_stack_right) (by decide +kernel)) (fun _ _ _ _ _ => (pg_name (i := 4) sc_law_stack_right.nd rfl (by first | exact Or.inl rfl | exact Or.inr rfl))) (fun _ _ _ _ _ => pts_nil) (fun _ _ _ _ _ => (pe_tup (pa_cons (pv 4) (pa_cons pe_int pa_nil))))) pa_nil)) pa_nil))))) (pg_tupK K (n := 4) rfl (pgs_cons (pg_name (i := 5) sc_law_stack_right.nd rfl (by first | exact Or.inl rfl | exact Or.inr rfl)) (pgs_cons (pg_name (i := 6) sc_law_stack_right.nd rfl (by first | exact Or.inl rfl | exact Or.inr rfl)) (pgs_cons (pg_name (i := 7) sc_law_stack_right.nd rfl (by first | exact Or.inl rfl | exact Or.inr rfl)) (pgs_cons (pg_name (i := 8) sc_law_stack_right.nd rfl (by first | exact Or.inl rfl | exact Or.inr rfl)) pgs_nil))))))
      (pss_cons (ps_for PassesOwn.never rfl (pi_range1 rfl (Tf_range T) (pa_cons (pe_op op_add pe_int (pe_call c_law_draw.1 (hr.mono (by decide)) rfl (Tg_law_draw T) c_law_draw.2.2 c_law_draw.2.1 .nil pass0 (pa_cons (pv 0) (pa_cons pe_int pa_nil)))) pa_nil)) (pg_name (i := 9) sc_law_stack_right.nd rfl (by first | exact Or.inl rfl | exact Or.inr rfl))
      (pss_cons (ps_par (i := 10) (j := 11) (by rfl) sc_law_stack_right.nd rfl rfl (by decide) rfl rfl (pa_cons (pe_ix (ix_listK K) (pv 1) (pe_call c_law_draw.1 (hr.mono (by decide)) rfl (Tg_law_draw T) c_law_draw.2.2 c_law_draw.2.1 .nil pass0 (pa_cons (pv 0) (pa_cons (pe_callB (call_lenJ K) (by rfl) (Tf_len T) (by decide +kernel) (pa_cons (pv 1) pa_nil)) pa_nil))) (fun _ _ => rfl)) (pa_cons (pe_ix (ix_listK K) (pv 1) (pe_call c_law_draw.1 (hr.mono (by decide)) rfl (Tg_law_draw T) c_law_draw.2.2 c_law_draw.2.1 .nil pass0 (pa_cons (pv 0) (pa_cons (pe_callB (call_lenJ K) (by rfl) (Tf_len T) (by decide +kernel) (pa_cons (pv 1) pa_nil)) pa_nil))) (fun _ _ => rfl)) pa_nil)) (by rfl))
      (pss_one (ps_if (PW.pt (pw_and (pt_cmpR op_lt (pe_callB (call_lenJ K) (by rfl) (Tf_len T) (by decide +kernel) (pa_cons (pv 7) pa_nil)) pe_int (nomark _)) (pw_and1 (pt_cmpR op_eq (pe_call c_law_draw.1 (hr.mono (by decide)) rfl (Tg_law_draw T) c_law_draw.2.2 c_law_draw.2.1 .nil pass0 (pa_cons (pv 0) (pa_cons pe_int pa_nil))) pe_int (nomark _))))) (pss_cons (ps_set (i := 12) sc_law_stack_right.nd rfl (by first | exact Or.inl rfl | exact Or.inr rfl) (pe_call c_law_right_step.1 (hr.mono (by decide)) rfl (Tg_law_right_step T) c_law_right_step.2.2 c_law_right_step.2.1 .nil pass0 (pa_cons (pv 0) (pa_cons (pv 3) (pa_cons (pv 2) (pa_cons (pv 10) (pa_cons (pv 11) pa_nil)))))))
      (pss_cons (ps_asg (pe_call c_law_labels.1 (hr.mono (by decide)) rfl (Tg_law_labels T) c_law_labels.2.2 c_law_labels.2.1 .nil pass0 (pa_cons (pv 1) (pa_cons (pv 7) pa_nil))) (pg_tupK K (n := 2) rfl (pgs_cons (pg_name (i := 13) sc_law_stack_right.nd rfl (by first | exact Or.inl rfl | exact Or.inr rfl)) (pgs_cons (pg_name (i := 14) sc_law_stack_right.nd rfl (by first | exact Or.inl rfl | exact Or.inr rfl)) pgs_nil))))
      (pss_cons (ps_set (i := 15) sc_law_stack_right.nd rfl (by first | exact Or.inl rfl | exact Or.inr rfl) (pe_tup (pa_cons (pe_ifExp (pt_cmpR op_eq (pe_dget hu (pv 13) (pv 10) (fun _ _ => rfl)) (pe_dget hu (pv 13) (pv 11) (fun _ _ => rfl)) (nomark _)) pe_str pe_str) (pa_cons (pe_callB (call_lenJ K) (by rfl) (Tf_len T) (by decide +kernel) (pa_cons (pv 7) pa_nil)) pa_nil))))
      (pss_cons (ps_if (pt_cmpR (op_neDK K hr.units) (pe_meth (pv 5) (Tc_Stack T) (Tm_Stack_join T) c_Stack_join.1 (hr.mono (by decide)) c_Stack_join.2.1 .nil pass0 (pa_cons (pv 10) (pa_cons (pv 11) (pa_cons (pv 12) pa_nil)))) (pv 15) (nomark _)) (pss_one (ps_ret pe_bl)) pss_nil)
      (pss_cons (ps_expr (pe_bm PySem.F.plainAttrs_list PySem.F.slot_list_append PySem.F.type_list_append mt_append (pv 7) (pa_cons (pe_tup (pa_cons (pv 10) (pa_cons (pv 11) (pa_cons (pv 12) pa_nil)))) pa_nil)))
      (pss_one (ps_expr (pe_bm PySem.F.plainAttrs_list PySem.F.slot_list_append PySem.F.type_list_append mt_append (pv 6) (pa_cons (pe_tup (pa_cons pe_str (pa_cons (pv 10) (pa_cons (pv 11) (pa_cons (pv 12) pa_nil))))) pa_nil))))))))) (pss_cons (ps_set (i := 16) sc_law_stack_right.nd rfl (by first | exact Or.inl rfl | exact Or.inr rfl) (pe_call c_law_draw.1 (hr.mono (by decide)) rfl (Tg_law_draw T) c_law_draw.2.2 c_law_draw.2.1 .nil pass0 (pa_cons (pv 0) (pa_cons (pe_op op_pow pe_int pe_int) pa_nil))))
      (pss_cons (ps_expr (pe_meth (pv 5) (Tc_Stack T) (Tm_Stack_weigh T) c_Stack_weigh.1 (hr.mono (by decide)) c_Stack_weigh.2.1 .nil pass0 (pa_cons (pv 10) (pa_cons (pv 16) pa_nil))))
      (pss_cons (ps_expr (pe_bm PySem.F.plainAttrs_list PySem.F.slot_list_append PySem.F.type_list_append mt_append (pv 6) (pa_cons (pe_tup (pa_cons pe_str (pa_cons (pv 10) (pa_cons (pv 16) pa_nil)))) pa_nil)))
      (pss_one (ps_dput hu (pv 8) (pv 10) (pv 16) rfl)))))))))
      (pss_cons (ps_if (PW.pt (pw_or (pt_cmpR (op_neDK K hr.units) (pe_meth0 (pv 5) (Tc_Stack T) (Tm_Stack_deeds T) c_Stack_deeds.1 (hr.mono (by decide)) c_Stack_deeds.2.1 .nil pass0) (pv 6) (nomark _)) (pw_or1 (pt_cmpR (op_neDK K hr.units) (pe_meth0 (pv 5) (Tc_Stack T) (Tm_Stack_standing T) c_Stack_standing.1 (hr.mono (by decide)) c_Stack_standing.2.1 .nil pass0) (pv 7) (nomark _))))) (pss_one (ps_ret pe_bl)) pss_nil)
      (pss_one (ps_ret (pe_call c_law_back_right.1 (hr.mono (by decide)) rfl (Tg_law_back_right T) c_law_back_right.2.2 c_law_back_right.2.1 .nil pass0 (pa_cons (pv 5) (pa_cons (pv 1) (pa_cons (pv 6) (pa_cons (pv 7) (pa_cons (pv 8) pa_nil))))))))))))), ?_⟩)
  · obtain ⟨t, b, rfl, _⟩ := h
    rfl
  · obtain ⟨t, b, rfl, T0, hb, q⟩ := h
    obtain ⟨xt, ht0⟩ := T0.some
    walk_at "jrd"
    refine r_draw T0 (by decide) (by decide) (by omega) fun r1 H1 g1 l1 f1 T1 => ?_
    walk_at "jrd"
    obtain ⟨m, hm⟩ : ∃ m : Nat, 3 + r1 = (m : Nat) := ⟨(3 + r1).toNat, by omega⟩
    rw [hm]
    refine ⟨m, rfl, by omega, fun nl H2 hn2 e2 hnl => ?_⟩
    have T2 := T1.same e2
    walk_at "jrd"
    have T2' := T2.same he
    refine r_draw T2' (by decide) (by decide) (by omega) fun r2 H3 g2 l2 f3 T3 => ?_
    obtain ⟨turn, htm, hti⟩ := pickI (is := [0, 1, 2, 1000, 7]) g2 l2
    have ht01 : 0 ≤ turn ∧ turn ≤ 1000 := by
      simp only [List.mem_cons, List.not_mem_nil, or_false] at htm
      omega
    have hti' : atI [V.int 0, .int 1, .int 2, .int 1000, .int 7] r2 = some (.int turn) := hti
    have np : p ≠ t := T2.ne hn
    have nnl : nl ≠ t := T1.ne hn2
    have hnd := nms_nodup m (by omega)
    have hok : ∀ n ∈ nms m, IsNm n := fun n hn => by
      obtain ⟨j, hj, rfl⟩ := List.mem_map.mp hn
      exact nms_ok j (by have := List.mem_range.mp hj; omega)
    have hlen : (nms m).length = m := by unfold nms; simp
    have hnl3 : H3 nl = _ := f3 _ _ (he _ _ hnl) nnl
    generalize nms m = ns at *
    walk_at "jrd"
    refine lc_draw hnl3 nnl hnd (by omega) T3 (by omega) (fun n => ⟨rfl, rfl⟩) (fun n H' Q b' hn T' hb' k => ?_) fun sd H4 sp hn4 f4 T4 hsd => ?_
    · walk_at "jrd"
      refine r_I ⟨by decide, by decide, by decide⟩ ?_
      walk_at "jrd"
      exact r_draw T' (by decide) (by decide) (by omega) fun r H2 g l f T => k r H2 f T
    have hnl4 : H4 nl = _ := f4 _ _ hnl3 (by simpa using nnl)
    have nsd : sd ≠ t := T3.ne hn4
    clear hnl hnl3 he hp hn e2 f1 f3 f4 hn2
    walk_at "jrd"
    refine r_make fun x dx H5 hn5 e5 hx => ?_
    refine ⟨x, p_1, dx, ns, turn, rfl, hx, e5 _ _ hp, hnd, hok, by omega, ht01.1, fun H6 a f6 fresh S6 => ⟨rfl, ?_⟩⟩
    have S6' := S6 sp
    have nx1 : nl ≠ x := ne_of_none (he _ _ hnl4) hn5
    have nx2 : sd ≠ x := ne_of_none (he _ _ hsd) hn5
    have T5 : Tape H5 t _ := (T4.same he).same e5
    obtain ⟨x5, ht5⟩ := T5.some
    have nx3 : t ≠ x := ne_of ht5 hx (by intro z; cases z)
    have O1 : Off a x nl := off_old fresh (e5 _ _ (he _ _ hnl4)) nx1
    have O2 : Off a x sd := off_old fresh (e5 _ _ (he _ _ hsd)) nx2
    have O3 : Off a x t := off_old fresh ht5 nx3
    have hnl6 : H6 nl = _ := f6 _ _ (e5 _ _ (he _ _ hnl4)) nx1
    have hsd6 : H6 sd = _ := f6 _ _ (e5 _ _ (he _ _ hsd)) nx2
    have T6 : Tape H6 t _ := T5.stay fun o ho => f6 _ _ ho nx3
    clear hx f6 fresh S6 hnl4 hsd he hp hn e5 ht5 nx1 nx2 hn5
    refine w_cons (w_lst (w_nil (r_lst (sz _ (by simp)) fun dl H7 hn7 e7 hdl => ?_)))
    refine w_cons (w_lst (w_nil (r_lst (sz _ (by simp)) fun rl H8 hn8 e8 hrl => ?_)))
    walk_at "jrd"
    refine lc_dict (fun _ => .int 0) (by walk_at "jhp") hnd (by omega) (fun n => ⟨rfl, rfl⟩) (fun n H' Q _ _ k => by walk_at "jrd"; exact k) fun wd H9 hn9 e9 hwd => ?_
    have O4 : Off a x dl := S6'.off hn7
    have O5 : Off a x rl := (S6'.same e7).off hn8
    have O6 : Off a x wd := ((S6'.same e7).same e8).off hn9
    have nt1 : dl ≠ t := T6.ne hn7
    have nt2 : rl ≠ t := (T6.same e7).ne hn8
    have nwd : sd ≠ wd := ne_of_none (e8 _ _ (e7 _ _ hsd6)) hn9
    have d1 : nl ≠ dl := ne_of_none hnl6 hn7
    have d2 : nl ≠ rl := ne_of_none (e7 _ _ hnl6) hn8
    have d3 : dl ≠ rl := ne_of_none hdl hn8
    have BO : BkOff a x nl dl rl wd := ⟨O1, O4, O5, O6, d1, d2, d3⟩
    have B9 : BkAt K H9 x nl dl rl wd ns sp turn a [] ⟨id, id, fun _ => 0, fun _ => 0⟩ := ⟨((S6'.same e7).same e8).same e9, e9 _ _ (e8 _ _ (e7 _ _ hnl6)), ⟨[], e9 _ _ (e8 _ _ hdl), Tups.nil⟩, ⟨[], e9 _ _ hrl, Tups.nil⟩, hwd⟩
    have hsd9 : H9 sd = _ := e9 _ _ (e8 _ _ (e7 _ _ hsd6))
    have T9 := ((T6.same e7).same e8).same e9
    clear hnl6 hsd6 e7 e8 e9 hdl hrl hwd T6 hn7 hn8 hn9 T0 ht0 T1 T2 T2' T3 T4 T5 S6'
    walk_at "jrd"
    have Ts := T9.same he
    refine r_draw Ts (by decide) (by decide) (by omega) fun r3 H10 g3 l3 f10 T10 => ?_
    walk_at "jrd"
    refine r_rng1 (by omega) (by omega) ?_
    have hsd10 : H10 sd = _ := f10 _ _ (he _ _ hsd9) nsd
    have B10 := (B9.same he).fr f10 Ts O3 nnl nt1 nt2
    clear B9 hsd9 T9 Ts f10 he hp hn
    refine loop_range (fun i σ H2 => ∃ (ds : List (Deed Str)) (k : Sk Str) (b : Nat) (v4 v9 v10 v11 v12 v13 v14 v15 v16 : Option V), σ = [some (.ref t), some (.ref nl), some (.int turn), some (.ref sd), v4, some (.ref x), some (.ref dl), some (.ref rl), some (.ref wd), v9, v10, v11, v12, v13, v14, v15, v16] ∧ BkAt K H2 x nl dl rl wd ns sp turn a ds k ∧ H2 sd = some (.dK (dmap ns fun n => .int (sp n))) ∧ Tape H2 t b ∧ b ≤ 1000 + 10 * i ∧ ds.length = i)
      ⟨[], _, _, _, _, _, _, _, _, _, _, _, rfl, B10, hsd10, T10, by omega, rfl⟩ ?_ ?_
    · clear B10 hsd10 T10
      rintro i σ H2 hi ⟨ds, k, b2, v4, v9, v10, v11, v12, v13, v14, v15, v16, rfl, B2, hsd2, T2, hb2, hdi⟩
      refine w_gname ?_
      dsimp only
      refine w_seqK (fun σ H4 => ∃ (o p' : Str) (b3 : Nat) (v4 v9 v12 v13 v14 v15 v16 : Option V), σ = [some (.ref t), some (.ref nl), some (.int turn), some (.ref sd), v4, some (.ref x), some (.ref dl), some (.ref rl), some (.ref wd), v9, some (.str o), some (.str p'), v12, v13, v14, v15, v16] ∧ o ∈ ns ∧ p' ∈ ns ∧ BkAt K H4 x nl dl rl wd ns sp turn a ds k ∧ H4 sd = some (.dK (dmap ns fun n => .int (sp n))) ∧ Tape H4 t b3 ∧ b3 ≤ b2 + 2) ?_ ?_
      · rintro σ H4 ⟨o, p', b3, v4, v9, v12, v13, v14, v15, v16, rfl, ho, hop, B4, hsd4, T4, hb3⟩
        refine w_ifK (fun H5 => ∃ b5, BkAt K H5 x nl dl rl wd ns sp turn a ds k ∧ H5 sd = some (.dK (dmap ns fun n => .int (sp n))) ∧ Tape H5 t b5 ∧ b5 ≤ b2 + 3) ?_ ?_
        · rintro H5 ⟨b5, B5, hsd5, T5, hb5⟩
          walk_at "jrd"
          refine r_I ⟨by decide, by decide, by decide⟩ ?_
          walk_at "jrd"
          refine r_draw T5 (by decide) (by decide) (by omega) fun r6 H6 g6 l6 f6 T6 => ?_
          have B6 := B5.fr f6 T5 O3 nnl nt1 nt2
          have hsd6 : H6 sd = _ := f6 _ _ hsd5 nsd
          obtain ⟨fs, i1, i2⟩ := B6.st.insx
          clear f6 B5
          walk_at "jrd"
          refine ⟨x, o, r6, ns, sp, turn, a, ds, k, rfl, B6.st, ho, by omega, fun H7 k' f7 S7 => ?_⟩
          obtain ⟨ws, hdl, tdl⟩ := B6.hdl
          obtain ⟨rs, hrl, trl⟩ := B6.hrl
          have tt7 := f7.tups B6.st.noTup
          have hdl7 := f7 _ _ hdl O4.1
          have hrl7 := f7 _ _ hrl O5.1
          have hnl7 := f7 _ _ B6.hnl O1.1
          have hwd7 := f7 _ _ B6.hwd O6.1
          have hsd7 := f7 _ _ hsd6 O2.1
          have T7 : Tape H7 t _ := T6.stay fun o h => f7 _ _ h O3.1
          obtain ⟨xt7, ht7⟩ := T7.some
          have lw := tdl.1
          clear i1 f7
          walk_at "jrd"
          have g : ∀ b o, H7 b = some o → b ≠ dl → b ≠ wd → H'_5 b = some o := fun b o h n1 n2 => hf_1 _ _ (hf _ _ (he _ _ h) n1) n2
          have u1 : TupS _ H'_4 := Fr1.tups hf (he _ _ hdl7) (by intro xs z; cases z)
          have h3wd : H'_4 wd = _ := hf _ _ (he _ _ hwd7) (ne_of hwd7 hdl7 (by intro z; cases z))
          have u2 : TupS _ H'_5 := Fr1.tups hf_1 h3wd (by intro xs z; cases z)
          have u3 : TupS H7 H'_5 := ((Same.tups he).trans u1).trans u2
          have ndw : dl ≠ wd := ne_of hdl7 hwd7 (by intro z; cases z)
          refine ⟨ds ++ [.weigh o r6 (k.we o)], k', _, _, _, _, _, _, _, _, _, _, rfl, ⟨((S7.same he).offOne hf O4 u1).offOne hf_1 O6 u2, g _ _ hnl7 d1 (ne_of hnl7 hwd7 (by intro z; cases z)), ⟨_, hf_1 _ _ hp_1 ndw, Tups.snoc (x := Deed.weigh o r6 (k.we o)) ((tdl.stay tt7).stay u3) (u2 _ _ (u1 _ _ hp))⟩, ⟨rs, g _ _ hrl7 d3.symm (ne_of hrl7 hwd7 (by intro z; cases z)), ?_⟩, ?_⟩, g _ _ hsd7 (ne_of hsd7 hdl7 (by intro z; cases z)) nwd, T7.stay fun o h => g _ _ h nt1.symm (ne_of ht7 hwd7 (by intro z; cases z)), by omega, by simp; omega⟩
          · rw [joinsOf_append]
            show Tups _ encR rs (joinsOf ds ++ [])
            rw [List.append_nil]
            exact (trl.stay tt7).stay u3
          · rw [hp_2, setF_int]
            congr 2
            refine dmap_congr fun m _ => ?_
            congr 1
            have h1 := B6.st.hist
            by_cases z : m = o
            · subst z; rw [sf_same, S7.hist.weight, weightOf_w, List.filterMap_append]; simp [wOf]
            · rw [sf_ne _ _ z, h1.weight, S7.hist.weight, weightOf_w, weightOf_w, List.filterMap_append]
              simp [wOf, Ne.symm z]
        · intro els
          obtain ⟨rs, hrl, trl⟩ := B4.hrl
          have lr := trl.1
          have lj := joinsOf_len ds
          walk_at "jrd"
          refine ite_of (fun z => ?_) (fun _ => els H4 ⟨_, B4, hsd4, T4, by omega⟩)
          walk_at "jrd"
          refine r_draw T4 (by decide) (by decide) (by omega) fun r6 H6 g6 l6 f6 T6 => ?_
          have B6 := B4.fr f6 T4 O3 nnl nt1 nt2
          have hsd6 : H6 sd = _ := f6 _ _ hsd4 nsd
          clear hrl trl f6 B4 hsd4
          walk_at "jrd"
          refine ite_of (fun z2 => ?_) (fun _ => els H6 ⟨_, B6, hsd6, T6, by omega⟩)
          clear els
          walk_at "jrd"
          refine ⟨t, sd, turn, o, p', _, ns, sp, rfl, T6, by omega, hsd6, ho, hop, ht01.1, ht01.2, fun d H7 d0 d1' f7 T7 => ?_⟩
          have B7 := B6.fr f7 T6 O3 nnl nt1 nt2
          have hsd7 : H7 sd = _ := f7 _ _ hsd6 nsd
          clear f7 B6 hsd6 T6
          obtain ⟨rs7, hrl7, trl7⟩ := B7.hrl
          have lr7 := trl7.1
          have hist := B7.st.hist
          walk_at "jrd"
          refine ⟨_, encR, fun r => (r.1, r.2.1), nl, rl, ns, rs7, joinsOf ds, rfl, B7.hnl, hrl7, trl7, fun r => ⟨_, rfl⟩, hist_joins hist, hnd, by omega, by omega, fun p5 d5 l5 H8 e8 _ _ _ h5p h5d h5l => ?_⟩
          rw [← labR_P] at h5d
          have B8 := B7.same e8
          have hsd8 : H8 sd = _ := e8 _ _ hsd7
          have T8 := T7.same e8
          clear hrl7 trl7 B7 hsd7 T7 e8
          obtain ⟨rs8, hrl8, trl8⟩ := B8.hrl
          have lr8 := trl8.1
          obtain ⟨fs, i1, i2⟩ := B8.st.insx
          walk_at "jrd"
          refine ite_tC ?_
          walk_at "jrd"
          have S9 := B8.st.same he
          refine ⟨x, o, p', _, ns, sp, turn, a, ds, k, rfl, S9, ho, hop, ?_, by omega, fun q9 H10 k' c f10 S10 h10 => ?_⟩
          · rw [show sp p' - sp o + turn * d - (sp p' - sp o) = turn * d by omega]
            exact Int.mul_emod_right _ _
          rw [lr8] at hp
          have hdue := f10 _ _ hp (fun hm => S9.noTup _ hm _ hp)
          have fd : ∀ v ∈ [V.str (if labR (joinsOf ds) o = labR (joinsOf ds) p' then Str.ofString "known" else Str.ofString "joined"), V.int ((joinsOf ds).length : Nat)], flV v = true := by
            intro v hv
            simp only [List.mem_cons, List.not_mem_nil, or_false] at hv
            rcases hv with rfl | rfl
            · split <;> decide +kernel
            · rfl
          obtain ⟨ws8, hdl8, tdl8⟩ := B8.hdl
          have lw8 := tdl8.1
          have tt10 := f10.tups S9.noTup
          have hdl10 := f10 _ _ (he _ _ hdl8) O4.1
          have hrl10 := f10 _ _ (he _ _ hrl8) O5.1
          have hnl10 := f10 _ _ (he _ _ B8.hnl) O1.1
          have hwd10 := f10 _ _ (he _ _ B8.hwd) O6.1
          have hsd10 := f10 _ _ (he _ _ hsd8) O2.1
          have T10 : Tape H10 t _ := T8.stay fun o h => f10 _ _ (he _ _ h) O3.1
          have tr10 := (trl8.stay (Same.tups he)).stay tt10
          have td10 := (tdl8.stay (Same.tups he)).stay tt10
          have we10 : ∀ n, k.we n = k'.we n := fun n => by rw [hist.weight, S10.hist.weight, weightOf_w, weightOf_w, List.filterMap_append]; simp [wOf]
          obtain ⟨xt10, ht10⟩ := T10.some
          walk_at "jrd"
          refine r_neSame (dp_tup h10 fd) (dp_tup hdue fd) (ly_tup fd) (by decide) ?_
          clear he hp hn hdue h10 f10 i1 S9 hdl8 tdl8 hrl8 hsd8 T8 B8 tt10
          walk_at "jrd"
          refine ite_F rfl ?_
          walk_at "jrd"
          have g : ∀ b o, H10 b = some o → b ≠ dl → b ≠ rl → H'_7 b = some o := fun b o h n1 n2 => hf_1 _ _ (he_1 _ _ (hf _ _ (he _ _ h) n2)) n1
          have u1 : TupS H'_4 H'_5 := Fr1.tups hf (he _ _ hrl10) (by intro xs z; cases z)
          have h6d : H'_6 dl = _ := he_1 _ _ (hf _ _ (he _ _ hdl10) d3)
          have u2 : TupS H'_6 H'_7 := Fr1.tups hf_1 h6d (by intro xs z; cases z)
          have u3 : TupS H10 H'_7 := (((Same.tups he).trans u1).trans (Same.tups he_1)).trans u2
          have n1 := ne_of hwd10 hdl10 (by intro z; cases z)
          have n2 := ne_of hwd10 hrl10 (by intro z; cases z)
          have n3 := ne_of hsd10 hdl10 (by intro z; cases z)
          have n4 := ne_of hsd10 hrl10 (by intro z; cases z)
          refine ⟨ds ++ [.join o p' (sp p' - sp o + turn * d) c], k', _, _, _, _, _, _, _, _, _, _, rfl, ⟨(((S10.same he).offOne hf O5 u1).same he_1).offOne hf_1 O4 u2, g _ _ hnl10 d1 d2, ⟨_, hp_3, Tups.snoc (x := Deed.join o p' (sp p' - sp o + turn * d) c) (td10.stay u3) (u2 _ _ hp_2)⟩, ⟨_, hf_1 _ _ (he_1 _ _ hp_1) d3.symm, ?_⟩, ?_⟩, g _ _ hsd10 n3 n4, T10.stay fun o h => g _ _ h nt1.symm nt2.symm, by omega, by simp; omega⟩
          · rw [joinsOf_append]
            exact Tups.snoc (x := (o, p', sp p' - sp o + turn * d)) (tr10.stay u3) (u2 _ _ (he_1 _ _ (u1 _ _ hp)))
          · rw [g _ _ hwd10 n1 n2]
            congr 2
            exact dmap_congr fun n _ => by rw [we10]
      · intro key
        have hnl2 := B2.hnl
        walk_at "jrd"
        rw [List.length_map]
        refine r_draw T2 (by omega) (by omega) (by omega) fun r4 H3 g4 l4 f3 T3 => ?_
        obtain ⟨o, ho, _, hoi⟩ := pick g4 l4
        have hnl3 : H3 nl = _ := f3 _ _ hnl2 nnl
        walk_at "jrd"
        rw [List.length_map]
        refine r_draw T3 (by omega) (by omega) (by omega) fun r5 H4 g5 l5 f4 T4 => ?_
        obtain ⟨p', hop, _, hpi⟩ := pick g5 l5
        have hnl4 : H4 nl = _ := f4 _ _ hnl3 nnl
        walk_at "jrd"
        exact key _ _ ⟨o, p', _, _, _, _, _, _, _, _, rfl, ho, hop, (B2.fr f3 T2 O3 nnl nt1 nt2).fr f4 T3 O3 nnl nt1 nt2, f4 _ _ (f3 _ _ hsd2 nsd) nsd, T4, by omega⟩
    · rintro σ H2 ⟨ds, k, b2, v4, v9, v10, v11, v12, v13, v14, v15, v16, rfl, B2, hsd2, T2, hb2, hdi⟩
      obtain ⟨fs, i1, i2⟩ := B2.st.insx
      have flR := fl_encR (hist_joins B2.st.hist) hok
      have flD := fl_encD4 B2.st.hist hok
      walk_at "jrd"
      refine ⟨x, ns, sp, turn, a, ds, k, rfl, B2.st, fun p5 ws5 H5 e5 _ h5 t5 => ?_⟩
      have B5 := B2.same e5
      obtain ⟨ws, hdl, tdl⟩ := B5.hdl
      clear i1 i2
      obtain ⟨fs, i1, i2⟩ := B5.st.insx
      walk_at "jrd"
      refine r_neSame (dp_tups h5 t5 flD) (dp_tups hdl tdl flD) (ly_tups flD) (by decide) ?_
      walk_at "jrd"
      refine ite_F rfl ?_
      walk_at "jrd"
      refine ⟨x, ns, sp, turn, a, ds, k, rfl, B5.st, fun p6 ws6 H6 e6 _ h6 t6 => ?_⟩
      have B6 := B5.same e6
      obtain ⟨rs, hrl, trl⟩ := B6.hrl
      walk_at "jrd"
      refine r_neSame (dp_tups h6 t6 flR) (dp_tups hrl trl flR) (ly_tups flR) (by decide) ?_
      walk_at "jrd"
      refine ite_F rfl ?_
      walk_at "jrd"
      exact ⟨x, nl, dl, rl, wd, ns, sp, turn, a, ds, k, rfl, B6, BO, hnd, hok, q⟩
end
section
variable {P : Program} {w : World} {K : PySem.W.Frag} {mg : Str → Option Value} {base : Heap}
/-! ### ways from a name -/
abbrev Ed := Nat × Int × Str
abbrev Wy := List (Nat × Int)
def encE (e : Ed) : List V := [.int (e.1 : Nat), .int e.2.1, .str e.2.2]
def encP (p : Nat × Int) : List V := [.int (p.1 : Nat), .int p.2]
/-- who is next to whom -/
def NearAt (H : Hp) (d : Addr) (ns : List Str) (E : Str → List Ed) : Prop := ∃ la : Str → Addr, H d = some (.dK (dmap ns fun n => .ref (la n))) ∧ ∀ n ∈ ns, ∃ vs, H (la n) = some (.lst vs) ∧ Tups H encE vs (E n)
theorem NearAt.same {H H' : Hp} {d : Addr} {ns : List Str} {E : Str → List Ed} (h : NearAt H d ns E) (e : Same H H') : NearAt H' d ns E := by
  obtain ⟨la, h1, h2⟩ := h
  exact ⟨la, e _ _ h1, fun n hn => by obtain ⟨vs, h3, h4⟩ := h2 n hn; exact ⟨vs, e _ _ h3, h4.stay (Same.tups e)⟩⟩
def WayAt (H : Hp) (a : Addr) (w : Wy) : Prop := ∃ vs, H a = some (.tup vs) ∧ Tups H encP vs w
theorem WayAt.same {H H' : Hp} {a : Addr} {w : Wy} (h : WayAt H a w) (e : Same H H') : WayAt H' a w := by
  obtain ⟨vs, h1, h2⟩ := h
  exact ⟨vs, e _ _ h1, h2.stay (Same.tups e)⟩
theorem WayAt.stay {H H' : Hp} {a : Addr} {w : Wy} (h : WayAt H a w) (e : TupS H H') : WayAt H' a w := by
  obtain ⟨vs, h1, h2⟩ := h
  exact ⟨vs, e _ _ h1, h2.stay e⟩
/-- the dict of the ways found -/
def FoundAt (H : Hp) (p : Addr) (L : List (Str × Wy)) : Prop := ∃ wa : Str → Addr, H p = some (.dK (dmap (L.map (·.1)) fun n => .ref (wa n))) ∧ ∀ q ∈ L, WayAt H (wa q.1) q.2
theorem FoundAt.same {H H' : Hp} {p : Addr} {L : List (Str × Wy)} (h : FoundAt H p L) (e : Same H H') : FoundAt H' p L := by
  obtain ⟨wa, h1, h2⟩ := h
  exact ⟨wa, e _ _ h1, fun q hq => (h2 q hq).same e⟩
theorem putK_dmap_new {ns : List Str} {f : Str → V} {n : Str} {v : V} (h : ¬ n ∈ ns) : putK (dmap ns f) (Sum.inr n : Key) v = dmap (ns ++ [n]) (setF f n v) := by
  rw [putK_new _ (valV_dmap_not h)]
  unfold dmap
  rw [List.map_append]
  congr 1
  · refine List.map_congr_left fun m hm => ?_
    rw [setF_ne f v (fun z => h (by rw [← z]; exact hm))]
  · show _ = [(Sum.inr n, setF f n v n)]
    rw [setF_same]
theorem nodup_sub_len {l m : List Str} (h : l.Nodup) (s : ∀ x ∈ l, x ∈ m) : l.length ≤ m.length := by
  induction l generalizing m with
  | nil => exact Nat.zero_le _
  | cons x r ih =>
    obtain ⟨h1, h2⟩ := List.nodup_cons.mp h
    have hx := s x (by simp)
    have := ih (m := m.erase x) h2 fun y hy => by
      have hy' := s y (by simp [hy])
      exact (List.mem_erase_of_ne (fun z => h1 (by rw [← z]; exact hy))).mpr hy'
    rw [List.length_erase_of_mem hx] at this
    have : 0 < m.length := List.length_pos_of_mem hx
    simp only [List.length_cons]; omega
def Closed (E : Str → List Ed) (L : List (Str × Wy)) : Prop := ∀ z ∈ L.map (·.1), ∀ e ∈ E z, e.2.2 ∈ L.map (·.1)
structure NearOk (ns : List Str) (E : Str → List Ed) : Prop where
  into : ∀ n ∈ ns, ∀ e ∈ E n, e.2.2 ∈ ns
  few : ns.length ≤ 1000
  fewE : ∀ n ∈ ns, (E n).length ≤ 1000
theorem grow_sub {E : Str → List Ed} {x : Str} {L : List (Str × Wy)} {ns : List Str} (g : Grow E x L) (hx : x ∈ ns) (ok : NearOk ns E) : ∀ n ∈ L.map (·.1), n ∈ ns := by
  induction g with
  | start => intro n hn; have : n = x := by simpa using hn
             subst this; exact hx
  | @more L z y wz n s _ hz he _ ih =>
    intro m hm
    rw [List.map_append] at hm
    rcases List.mem_append.mp hm with h | h
    · exact ih m h
    · have : m = y := by simpa using h
      subst this
      exact ok.into z (ih z (List.mem_map.mpr ⟨_, hz, rfl⟩)) _ he
theorem grow_wlen {E : Str → List Ed} {x : Str} {L : List (Str × Wy)} (g : Grow E x L) : ∀ q ∈ L, q.2.length < L.length := by
  induction g with
  | start => intro q hq; have : q = (x, []) := by simpa using hq
             subst this; simp
  | @more L z y wz n s _ hz he _ ih =>
    intro q hq
    rw [List.length_append]
    rcases List.mem_append.mp hq with h | h
    · have := ih q h; simp; omega
    · have : q = (y, wz ++ [(n, s)]) := by simpa using h
      subst this
      have := ih _ hz
      simp; omega
def sp_walked : Sp := fun vs H Q _ => ∃ (d : Addr) (x : Str) (ns : List Str) (E : Str → List Ed), vs = [.ref d, .str x] ∧ NearAt H d ns E ∧ NearOk ns E ∧ x ∈ ns ∧
  ∀ (p : Addr) (H' : Hp) (L : List (Str × Wy)), H p = none → Same H H' → FoundAt H' p L → Grow E x L → Closed E L → Q (.ref p) H'
abbrev N_walked : List Str := ["near", "name", "found", "waiting", "here", "number", "side", "there"]
theorem sc_walked : FnScope N_walked ["near", "name"] (defScope s_walked) := ⟨rfl, rfl, rfl, by decide +kernel, rfl, by decide +kernel, by decide +kernel⟩
theorem ok_walked (T : Txt w K mg) : OkF P w K mg base 1 (gA K "walked") ["near", "name"] sp_walked := by
  refine okF (Td_walked T) sc_walked (fun _ _ _ _ _ _ us hl => match us, hl with | [_, _], _ => rfl) (fun vs H Q E h => ?_) (fun cdv A outer s H vs Q E hr h => have hu := hu_of hr; ⟨_, (pss_cons (ps_set (i := 2) sc_walked.nd rfl (by first | exact Or.inl rfl | exact Or.inr rfl) (pe_disp (pps_cons (pv 1) (pe_tup pa_nil) pps_nil) (by rfl) (by rfl) (fun z => by cases z) (by decide)))
      (pss_cons (ps_set (i := 3) sc_walked.nd rfl (by first | exact Or.inl rfl | exact Or.inr rfl) (pe_lst (pa_cons (pv 1) pa_nil)))
      (pss_cons (ps_while PassesOwn.never (pt_cmpR op_gt (pe_callB (call_lenJ K) (by rfl) (Tf_len T) (by decide +kernel) (pa_cons (pv 3) pa_nil)) pe_int (nomark _)) (pss_cons (ps_set (i := 4) sc_walked.nd rfl (by first | exact Or.inl rfl | exact Or.inr rfl) (pe_bm0 PySem.F.plainAttrs_list PySem.F.slot_list_pop PySem.F.type_list_pop mt_pop (pv 3)))
      (pss_one (ps_for PassesOwn.never rfl (pi_list (pe_dget hu (pv 0) (pv 4) (fun _ _ => rfl))) (pg_tupK K (n := 3) rfl (pgs_cons (pg_name (i := 5) sc_walked.nd rfl (by first | exact Or.inl rfl | exact Or.inr rfl)) (pgs_cons (pg_name (i := 6) sc_walked.nd rfl (by first | exact Or.inl rfl | exact Or.inr rfl)) (pgs_cons (pg_name (i := 7) sc_walked.nd rfl (by first | exact Or.inl rfl | exact Or.inr rfl)) pgs_nil))))
      (pss_one (ps_if (pt_cmp (pc_dnotin hu (pv 7) (pv 2))) (pss_cons (ps_dput hu (pv 2) (pv 7) (pe_op (op_catK K) (pe_dget hu (pv 2) (pv 4) (fun _ _ => rfl)) (pe_tup (pa_cons (pe_tup (pa_cons (pv 5) (pa_cons (pv 6) pa_nil))) pa_nil))) rfl)
      (pss_one (ps_expr (pe_bm PySem.F.plainAttrs_list PySem.F.slot_list_append PySem.F.type_list_append mt_append (pv 3) (pa_cons (pv 7) pa_nil))))) pss_nil))))))
      (pss_one (ps_ret (pv 2)))))), ?_⟩)
  · obtain ⟨d, x, ns, E, rfl, _⟩ := h
    rfl
  · obtain ⟨d, x, ns, E, rfl, N, ok, hx, q⟩ := h
    walk_at "jrd"
    intro p hn
    refine w_var rfl (w_tup (w_nil (r_tup (sz _ (by simp)) fun e0 H1 hn1 he1 hp1 => ?_)))
    have hp1' : H1 p = some (.dK []) := he1 _ _ upd_same
    refine ⟨hp1', [(Sum.inr x, .ref e0)], rfl, by simp, ?_⟩
    have hm : mergeK [] [((Sum.inr x : Key), V.ref e0)] = dmap (([(x, [])] : List (Str × Wy)).map (·.1)) fun _ => .ref e0 := rfl
    rw [hm]
    have e2 : Same H (upd H1 p (.dK (dmap (([(x, [])] : List (Str × Wy)).map (·.1)) fun _ => .ref e0))) := fun a o h => by
      have n : a ≠ p := ne_of_none h hn
      rw [upd_ne n]; exact he1 _ _ (by rw [upd_ne n]; exact h)
    have f2 : FoundAt (upd H1 p (.dK (dmap (([(x, [])] : List (Str × Wy)).map (·.1)) fun _ => .ref e0))) p [(x, [])] := ⟨fun _ => e0, upd_same, fun q hq => by
      have : q = (x, []) := by simpa using hq
      subst this
      exact ⟨[], by rw [upd_ne (ne_of hp1 hp1' (by intro z; cases z))]; exact hp1, Tups.nil⟩⟩
    generalize upd H1 p (.dK (dmap (([(x, [])] : List (Str × Wy)).map (·.1)) fun _ => .ref e0)) = H2 at *
    clear hn1 he1 hp1 hp1' hm
    refine w_gname (w_seq (w_asg (w_lst (w_cons (w_var rfl (w_nil (r_lst (sz _ (by simp)) fun wl H3 hn3 e3 h3 => ?_)))))))
    walk_at "jrd"
    have hwl : H wl = none := e2.free hn3
    obtain ⟨la, hd0, hla0⟩ := N
    refine w_while (fun m σ H2 => ∃ (L : List (Str × Wy)) (W : List Str) (v4 v5 v6 v7 : Option V), σ = [some (.ref d), some (.str x), some (.ref p), some (.ref wl), v4, v5, v6, v7] ∧ Same H H2 ∧ FoundAt H2 p L ∧ H2 wl = some (.lst (W.map V.str)) ∧ Grow E x L ∧ (∀ z ∈ W, z ∈ L.map (·.1)) ∧ (∀ z ∈ L.map (·.1), ¬ z ∈ W → ∀ e ∈ E z, e.2.2 ∈ L.map (·.1)) ∧ m + 2 * L.length = 2 * ns.length + W.length ∧ m ≤ 2 * ns.length)
      ⟨2 * ns.length + 1 - 2, [(x, [])], [x], _, _, _, _, rfl, e2.trans e3, f2.same e3, h3, .start, by simp, by simp, by have := List.length_pos_of_mem hx; simp; omega, by omega⟩ ?_
    clear e2 f2 hn3 e3 h3
    rintro m σ H2 ⟨L, W, v4, v5, v6, v7, rfl, e2, F, hw, g, hW, hdone, hm, hm2⟩
    walk_at "jrd"
    rcases nil_or_snoc W with rfl | ⟨W, here, rfl⟩
    · refine ite_F rfl ?_
      walk_at "jrd"
      exact q p H2 L hn e2 F g fun z hz e he => hdone z hz (by simp) e he
    · refine ite_T (by simp) ⟨_, fun _ _ h => h, ?_⟩
      have hd := e2 _ _ hd0
      have hhere : here ∈ L.map (·.1) := hW here (by simp)
      have hin : here ∈ ns := grow_sub g hx ok here hhere
      obtain ⟨vs, hvs, tvs⟩ := hla0 here hin
      have hvs2 := e2 _ _ hvs
      rw [List.map_append] at hw
      have hvw : la here ≠ wl := ne_of_none hvs hwl
      have hEl := ok.fewE here hin
      have hvl := tvs.1
      walk_at "jrd"
      have e3 : Same H H' := Same.mut e2 hwl hf
      have F3 : FoundAt H' p L := by
        obtain ⟨wa, h1, h2⟩ := F
        exact ⟨wa, hf _ _ h1 (ne_of h1 hw (by intro z; cases z)), fun q hq => (h2 q hq).stay (Fr1.tups hf hw (by intro xs z; cases z))⟩
      clear F hf hvs2 hd
      refine loop_list (xs := vs) (fun j σ H3 => ∃ (L : List (Str × Wy)) (W : List Str) (v5 v6 v7 : Option V), σ = [some (.ref d), some (.str x), some (.ref p), some (.ref wl), some (.str here), v5, v6, v7] ∧ Same H H3 ∧ FoundAt H3 p L ∧ H3 wl = some (.lst (W.map V.str)) ∧ Grow E x L ∧ here ∈ L.map (·.1) ∧ (∀ z ∈ W, z ∈ L.map (·.1)) ∧ (∀ z ∈ L.map (·.1), ¬ z ∈ W → z = here ∨ ∀ e ∈ E z, e.2.2 ∈ L.map (·.1)) ∧ (∀ e ∈ (E here).take j, e.2.2 ∈ L.map (·.1)) ∧ 2 * ns.length + W.length + 1 ≤ m + 2 * L.length)
        ⟨L, W, _, _, _, rfl, e3, F3, hp, g, hhere, fun z hz => hW z (by simp [hz]), fun z hz hn => ?_, by simp, by simp at hm; omega⟩ (fun j σ H3 _ ⟨_, _, _, _, _, _, e, _⟩ => e _ _ hvs) ?_ ?_
      · by_cases h : z = here
        · exact .inl h
        · exact .inr (hdone z hz (by simp [hn, h]))
      · clear hW hdone hm hw hp F3 e3 e2 g hhere W L
        rintro j y σ H3 hj ⟨L, W, v5, v6, v7, rfl, e3, F3, hw3, g, hhere, hW, hdone, htk, hm⟩
        obtain ⟨e, t, he, rfl, ht⟩ := (tvs.stay (Same.tups e3)).2 j y hj
        obtain ⟨k, s', m2⟩ := e
        unfold encE at ht
        obtain ⟨wa, hk3, hways⟩ := F3
        have hem : (k, s', m2) ∈ E here := List.mem_of_getElem? he
        have hLn : (L.map (·.1)).length ≤ ns.length := nodup_sub_len g.nodup (grow_sub g hx ok)
        have few := ok.few
        rw [List.length_map] at hLn
        walk_at "jrd"
        refine r_dnotinS hk3 ?_
        rw [valV_dmap_some]
        walk_at "jrd"
        refine ite_nof (fun hnot => ?_) (fun hyes => ?_)
        · obtain ⟨⟨h', wz⟩, hwz, rfl⟩ := List.mem_map.mp hhere
          obtain ⟨ws, hws, tws⟩ := hways _ hwz
          have hwl2 := grow_wlen g _ hwz
          have lws := tws.1
          walk_at "jrd"
          have hkc : H'_3 p = _ := he_3 _ _ (he_2 _ _ (he_1 _ _ hk3))
          have n1 : wl ≠ p := ne_of hw3 hk3 (by intro z; cases z)
          refine r_dputS hkc (szlt _ (by rw [dmap_len, List.length_map]; omega)) fun H4 f4 h4 => ?_
          rw [putK_dmap_new hnot] at h4
          have hw4 : H4 wl = _ := f4 _ _ (he_3 _ _ (he_2 _ _ (he_1 _ _ hw3))) n1
          have lW : (W.map V.str).length < 16777216 := by rw [List.length_map]; omega
          refine w_drop (w_bm (w_var rfl (ty_list hw4 (w_cons (w_var rfl (w_nil (r_append hw4 (szlt _ lW) fun H5 f5 h5 => ?_)))))))
          have t4 : TupS H'_3 H4 := Fr1.tups f4 hkc (by intro xs z; cases z)
          have t5 : TupS H4 H5 := Fr1.tups f5 hw4 (by intro xs z; cases z)
          have t35 : TupS H3 H5 := ((((Same.tups he_1).trans (Same.tups he_2)).trans (Same.tups he_3)).trans t4).trans t5
          refine ⟨L ++ [(m2, wz ++ [(k, s')])], W ++ [m2], _, _, _, rfl, Same.mut (Same.mut (((e3.trans he_1).trans he_2).trans he_3) hn f4) hwl f5, ⟨setF wa m2 p_3, ?_, fun q hq => ?_⟩, ?_, .more g hwz hem hnot, ?_, fun z hz => ?_, fun z hz hnz => ?_, fun e he' => ?_, ?_⟩
          · have e1 : (fun n => V.ref (setF wa m2 p_3 n)) = setF (fun n => V.ref (wa n)) m2 (.ref p_3) := by
              funext n; unfold setF; split <;> rfl
            rw [e1, List.map_append]
            exact f5 _ _ h4 n1.symm
          · rcases List.mem_append.mp hq with h | h
            · have : q.1 ≠ m2 := fun z => hnot (z ▸ List.mem_map.mpr ⟨q, h, rfl⟩)
              rw [setF_ne _ _ this]
              exact (hways q h).stay t35
            · have : q = (m2, wz ++ [(k, s')]) := by simpa using h
              subst this
              rw [setF_same]
              exact ⟨_, t5 _ _ (t4 _ _ hp_2), Tups.snoc (x := (k, s')) (tws.stay t35) (t5 _ _ (t4 _ _ (he_3 _ _ (he_2 _ _ hp))))⟩
          · rw [h5, List.map_append]; rfl
          · rw [List.map_append]; exact List.mem_append_left _ hhere
          · rw [List.map_append]
            rcases List.mem_append.mp hz with h | h
            · exact List.mem_append_left _ (hW z h)
            · exact List.mem_append_right _ (by simpa using h)
          · rw [List.map_append] at hz ⊢
            rcases List.mem_append.mp hz with h | h
            · rcases hdone z h (fun q => hnz (by simp [q])) with h2 | h2
              · exact .inl h2
              · exact .inr fun e he => List.mem_append_left _ (h2 e he)
            · exact absurd (by simpa using Or.inr (by simpa using h)) hnz
          · rw [List.map_append]
            rw [take_more he] at he'
            rcases List.mem_append.mp he' with h | h
            · exact List.mem_append_left _ (htk e h)
            · have : e = (k, s', m2) := by simpa using h
              subst this; simp
          · rw [List.length_append, List.length_append]; simp; omega
        · refine w_next ⟨L, W, _, _, _, rfl, e3, ⟨wa, hk3, hways⟩, hw3, g, hhere, hW, hdone, fun e he' => ?_, hm⟩
          rw [take_more he] at he'
          rcases List.mem_append.mp he' with h | h
          · exact htk e h
          · have : e = (k, s', m2) := by simpa using h
            subst this; exact hyes
      · rintro σ H3 ⟨L, W, v5, v6, v7, rfl, e3, F3, hw3, g, hhere, hW, hdone, htk, hm⟩
        rw [List.take_of_length_le (by omega)] at htk
        have hLn : (L.map (·.1)).length ≤ ns.length := nodup_sub_len g.nodup (grow_sub g hx ok)
        rw [List.length_map] at hLn
        refine ⟨2 * ns.length + W.length - 2 * L.length, by omega, L, W, _, _, _, _, rfl, e3, F3, hw3, g, hW, fun z hz hn => ?_, by omega, by omega⟩
        rcases hdone z hz hn with rfl | h
        · exact htk
        · exact h
end
section
variable {P : Program} {w : World} {K : PySem.W.Frag} {mg : Str → Option Value} {base : Heap}
/-! ### what stands at a moment -/
abbrev Row := Nat × Str × Str × Int
def RowsAt (H : Hp) (ro : Addr) (rows : List Row) : Prop := ∃ ra : Nat → Addr, H ro = some (.dK (rows.map fun r => ((Sum.inl (r.1 : Int) : Key), V.ref (ra r.1)))) ∧ ∀ r ∈ rows, H (ra r.1) = some (.tup (encR r.2))
theorem RowsAt.same {H H' : Hp} {ro : Addr} {rows : List Row} (h : RowsAt H ro rows) (e : Same H H') : RowsAt H' ro rows := by
  obtain ⟨ra, h1, h2⟩ := h
  exact ⟨ra, e _ _ h1, fun r hr => e _ _ (h2 r hr)⟩
def rowOf (rows : List Row) (k : Nat) : Option (Str × Str × Int) := (rows.find? fun r => r.1 == k).map (·.2)
def edR (rows : List Row) (k : Nat) : Str × Str := match rowOf rows k with | some r => (r.1, r.2.1) | none => ("", "")
def ed1 (rows : List Row) (n : Str) (k : Nat) : List Ed := (if (edR rows k).1 = n then [(k, 1, (edR rows k).2)] else []) ++ (if (edR rows k).2 = n then [(k, -1, (edR rows k).1)] else [])
def edgesOf (rows : List Row) (hd : List Nat) (n : Str) : List Ed := hd.flatMap (ed1 rows n)
theorem rowOf_mem {rows : List Row} {k : Nat} {r : Str × Str × Int} (h : rowOf rows k = some r) : (k, r) ∈ rows := by
  unfold rowOf at h
  obtain ⟨q, h1, rfl⟩ := Option.map_eq_some_iff.mp h
  have h2 := List.mem_of_find?_eq_some h1
  have h3 := List.find?_some h1
  have : q.1 = k := by simpa using h3
  subst this; exact h2
theorem rowOf_of {rows : List Row} (hp : (rows.map (·.1)).Nodup) {k : Nat} {r : Str × Str × Int} (h : (k, r) ∈ rows) : rowOf rows k = some r := by
  induction rows with
  | nil => cases h
  | cons q rest ih =>
    obtain ⟨h1, h2⟩ := List.nodup_cons.mp hp
    unfold rowOf
    rw [List.find?_cons]
    rcases List.mem_cons.mp h with e | e
    · subst e; simp
    · have : ¬ q.1 = k := fun z => h1 (by show q.1 ∈ _; rw [z]; exact List.mem_map.mpr ⟨_, e, rfl⟩)
      rw [show (q.1 == k) = false from beq_eq_false_iff_ne.mpr this]
      exact ih h2 e
theorem valV_rows {rows : List Row} {ra : Nat → Addr} {k : Nat} {r : Str × Str × Int} (h : rowOf rows k = some r) : valV (rows.map fun r => ((Sum.inl (r.1 : Int) : Key), V.ref (ra r.1))) (Sum.inl (k : Int)) = some (.ref (ra k)) := by
  induction rows with
  | nil => cases h
  | cons q rest ih =>
    by_cases e : q.1 = k
    · subst e; exact valV_pos (p := ((Sum.inl (q.1 : Int) : Key), V.ref (ra q.1))) rfl
    · refine (valV_neg (p := ((Sum.inl (q.1 : Int) : Key), V.ref (ra q.1))) (fun z => e (by have := Sum.inl.inj z; omega))).trans (ih ?_)
      unfold rowOf at h
      rw [List.find?_cons, show (q.1 == k) = false from beq_eq_false_iff_ne.mpr e] at h
      exact h
theorem valV_rows_not {rows : List Row} {ra : Nat → Addr} {k : Nat} (h : ¬ k ∈ rows.map (·.1)) : valV (rows.map fun r => ((Sum.inl (r.1 : Int) : Key), V.ref (ra r.1))) (Sum.inl (k : Int)) = none := by
  induction rows with
  | nil => rfl
  | cons q rest ih =>
    have e : ¬ q.1 = k := fun z => h (by rw [← z]; simp)
    exact (valV_neg (p := ((Sum.inl (q.1 : Int) : Key), V.ref (ra q.1))) (fun z => e (by have := Sum.inl.inj z; omega))).trans (ih fun z => h (List.mem_cons_of_mem _ z))
theorem edgesOf_len (rows : List Row) (n : Str) : ∀ l : List Nat, (edgesOf rows l n).length ≤ 2 * l.length
  | [] => Nat.le_refl _
  | k :: r => by
    have := edgesOf_len rows n r
    have h : (ed1 rows n k).length ≤ 2 := by unfold ed1; split <;> split <;> simp
    unfold edgesOf at *
    rw [List.flatMap_cons, List.length_append]
    simp only [List.length_cons]; omega
theorem edgesOf_snoc (rows : List Row) (n : Str) (l : List Nat) (k : Nat) : edgesOf rows (l ++ [k]) n = edgesOf rows l n ++ ed1 rows n k := by
  unfold edgesOf; rw [List.flatMap_append]; simp
def standKeys : List Str := ["own_names", "rows", "held", "coming", "near"]
structure StIns (K : PySem.W.Frag) (G : Hp) (a : Addr) (dx on ro he ne : Addr) (coming : Nat) (fs : List (Str × V)) : Prop where
  h : G a = some (.ins (gA K "Standing") dx fs)
  nm : NoM standKeys fs
  on : lk fs "own_names" (.ref on)
  ro : lk fs "rows" (.ref ro)
  he : lk fs "held" (.ref he)
  co : lk fs "coming" (.int (coming : Nat))
  ne : lk fs "near" (.ref ne)
def intsN (l : List Nat) : List V := l.map fun k => .int (k : Nat)
structure StAt' (K : PySem.W.Frag) (G : Hp) (a : Addr) (names : List Str) (rows : List Row) (hd : List Nat) (coming : Nat) : Prop where
  ins : ∃ dx on ro he ne fs, StIns K G a dx on ro he ne coming fs ∧ G on = some (.lst (names.map V.str)) ∧ RowsAt G ro rows ∧ G he = some (.lst (intsN hd)) ∧ NearAt G ne names (edgesOf rows hd)
theorem StAt'.same {K : PySem.W.Frag} {G H : Hp} {a : Addr} {names : List Str} {rows : List Row} {hd : List Nat} {coming : Nat} (S : StAt' K G a names rows hd coming) (e : Same G H) : StAt' K H a names rows hd coming := by
  obtain ⟨dx, on, ro, he, ne, fs, I, h1, h2, h3, h4⟩ := S.ins
  exact ⟨dx, on, ro, he, ne, fs, { I with h := e _ _ I.h }, e _ _ h1, h2.same e, e _ _ h3, h4.same e⟩
/-- what is kept of a heap: what G knows, what came since H, and x -/
def gx (G H H' : Hp) (x : Addr) : Hp := fun b => if b = x then H' b else match H b with | none => H' b | some _ => G b
theorem gx_x {G H H' : Hp} {x : Addr} : gx G H H' x x = H' x := if_pos rfl
theorem gx_new {G H H' : Hp} {x b : Addr} (h : H b = none) : gx G H H' x b = H' b := by
  unfold gx
  rw [h]
  split <;> rfl
theorem gx_old {G H H' : Hp} {x b : Addr} {o : HO} (n : b ≠ x) (h : H b = some o) : gx G H H' x b = G b := by
  unfold gx
  rw [if_neg n, h]
theorem gx_sub {G H H' : Hp} {x : Addr} (e : Same G H) (hx : G x = none) : Same G (gx G H H' x) := fun b o h => by
  have n : b ≠ x := ne_of_none h hx
  rw [gx_old n (e _ _ h)]; exact h
theorem gx_in {G H H' : Hp} {x : Addr} (e : Same G H) (f : Fr1 x H H') : Same (gx G H H' x) H' := fun b o h => by
  by_cases n : b = x
  · subst n; rw [gx_x] at h; exact h
  · cases q : H b with
    | none => rw [gx_new q] at h; exact h
    | some u => rw [gx_old n q] at h; exact f _ _ (e _ _ h) n
theorem gx_none {G H H' : Hp} {x b : Addr} (n : b ≠ x) (h : H b ≠ none) (g : G b = none) : gx G H H' x b = none := by
  cases q : H b with
  | none => exact absurd q h
  | some u => rw [gx_old n q]; exact g
section
variable {K : PySem.W.Frag} {σ : L2.St} {H : Hp} {Q : VK}
/-- a comprehension that only makes new things, its own list named -/
theorem lc_D {J : It} {n : Nat} {G : Hp → Prop} {Y : Nat → Hp → V → Hp → Prop} {te : TE} (w : Walk J n G Y) {g : TG} {tt : TT} {vs : List Nat} (hG : ∀ H', Same H H' → G H') (hn : n ≤ 1000000)
    (Pv : Addr → Nat → List V → Hp → Prop) (h0 : ∀ D H', H D = none → Same H H' → Pv D 0 [] H') (up : ∀ D i acc H1 H2, Pv D i acc H1 → TupS H1 H2 → Fr1 D H1 H2 → Pv D i acc H2)
    (hs : ∀ D i x acc H1 H1' (KY : VK) (KN : Hp → Prop), i < n → H D = none → H1 D = some (.lst acc) → Pv D i acc H1 → Same H H1 → Y i H1 x H1' → acc.length ≤ i → (∀ y H4, Same H1 H4 → Pv D (i + 1) (acc ++ [y]) H4 → KY y H4) → (∀ H3, Same H1 H3 → Pv D (i + 1) acc H3 → KN H3) →
      g x (wipe σ vs) H1' fun σ2 H2 => wipe σ2 vs = wipe σ vs ∧ tt σ2 H2 fun b H3 => if b = true then te σ2 H3 KY else KN H3)
    (hd : ∀ acc D H', H D = none → Same H H' → H' D = some (.lst acc) → Pv D n acc H' → acc.length ≤ n → Q (.ref D) H') : LcAt J g tt te vs σ Q H := by
  intro D hD
  have up0 : Same H (upd H D (.lst [])) := same_new hD
  refine lc_it w (fun i H' => ∃ acc, Same H H' ∧ H' D = some (.lst acc) ∧ acc.length ≤ i ∧ Pv D i acc H') ⟨[], up0, upd_same, Nat.le_refl _, h0 D _ hD up0⟩ (fun i H' _ ⟨acc, f, _⟩ => hG H' f) ?_ ?_
  · rintro i x H1 H1' hi ⟨acc, f, hacc, hl, p⟩ hy
    refine hs D i x acc H1 H1' _ _ hi hD hacc p f hy hl (fun y H4 f4 p4 => ⟨acc, f4 D _ hacc, by rw [sizeLine_eq]; omega, acc ++ [y], fun a o h => ?_, upd_same, by simp; exact hl, up D (i + 1) (acc ++ [y]) H4 _ p4 (fun t xs h => ?_) Fr1.upd⟩) (fun H3 f3 p3 => ⟨acc, f.trans f3, f3 D _ hacc, by omega, p3⟩)
    · rw [upd_ne (ne_of_none h hD)]; exact f4 a o (f a o h)
    · rw [upd_ne (ne_of h (f4 D _ hacc) (by intro z; cases z))]; exact h
  · rintro H' ⟨acc, f, hacc, hl, p⟩
    exact hd acc D H' hD f hacc p hl
/-- dict([(name, []) for name in names]) -/
theorem lc_dictL {a : Addr} {ns : List Str} {j : Nat} {vs : List Nat} (h : H a = some (.lst (ns.map V.str))) (nd : ns.Nodup) (hz : ns.length ≤ 1000)
    (hw : ∀ n : Str, wipe ((wipe σ vs).set j (some (.str n))) vs = wipe σ vs ∧ ((wipe σ vs).set j (some (.str n)))[j]? = some (some (.str n)))
    (k : ∀ p H' (la : Str → Addr), (hn : H p = none) → (he : Same H H') → (hp : H' p = some (.dK (dmap ns fun n => .ref (la n)))) → (∀ n ∈ ns, H (la n) = none ∧ H' (la n) = some (.lst [])) → (∀ n ∈ ns, ∀ m ∈ ns, la n = la m → n = m) → Q (.ref p) H') :
    LcAt (Itl K a) (gName j) tYes (tTup (tCons (tVar j) (tCons (tLst tNil) tNil))) vs σ (fun x H1 => tNil σ H1 fun xs H2 => jDictP K (x :: xs) H2 Q) H := by
  refine lc_D walk_list (fun H' g => SqL.of (g _ _ h)) (by simp; omega) (fun D i acc H' => ∃ la : Str → Addr, Tups H' (fun n : Str => [.str n, .ref (la n)]) acc (ns.take i) ∧ (∀ n ∈ ns.take i, la n ≠ D ∧ H (la n) = none ∧ H' (la n) = some (.lst [])) ∧ ∀ n ∈ ns.take i, ∀ m ∈ ns.take i, la n = la m → n = m)
    (fun D H' _ _ => ⟨fun _ => 0, Tups.nil, by simp, by simp⟩) (fun D i acc H1 H2 ⟨la, t, q, inj⟩ tt f => ⟨la, t.stay tt, fun n hn => ⟨(q n hn).1, (q n hn).2.1, f _ _ (q n hn).2.2 (q n hn).1⟩, inj⟩) ?_ ?_
  · rintro D i y acc H1 H1' KY KN hi hD hDa ⟨la, t, q, inj⟩ e1 ⟨rfl, hy⟩ hacc hY hN
    rw [List.getElem?_map, Option.map_eq_some_iff] at hy
    obtain ⟨n, hm, rfl⟩ := hy
    have hi' : i < ns.length := (List.getElem?_eq_some_iff.mp hm).1
    have hnot : ¬ n ∈ ns.take i := fun z => by
      obtain ⟨j', hj', hje⟩ := List.mem_iff_getElem.mp z
      rw [List.length_take] at hj'
      have h2 : ns[j']? = some n := by rw [← hje, List.getElem_take]; exact List.getElem?_eq_getElem _
      have h3 := (List.getElem?_inj (by omega) nd).mp (h2.trans hm.symm)
      omega
    refine ⟨(hw n).1, w_tyes (ite_T rfl ?_)⟩
    refine ⟨_, (hw n).2, w_lst (w_nil (r_lst (sz _ (by simp)) fun l H2 hn2 e2 h2 => ?_))⟩
    refine ⟨sz _ (by simp), fun p hp => hY (.ref p) (upd H2 p (.tup [.str n, .ref l])) (e2.trans (same_new hp)) ?_⟩
    have e3 : Same H1' (upd H2 p (.tup [.str n, .ref l])) := e2.trans (same_new hp)
    have old : ∀ m ∈ ns.take i, la m ≠ l := fun m hm => ne_of_none (q m hm).2.2 hn2
    refine ⟨setF la n l, ?_, ?_, ?_⟩
    · rw [take_more hm]
      refine Tups.snoc ⟨t.1, fun i2 v hv => ?_⟩ (by show _ = some (HO.tup [V.str n, V.ref (setF la n l n)]); rw [setF_same]; exact upd_same)
      obtain ⟨x, t', z1, z2, z3⟩ := (t.stay (Same.tups e3)).2 i2 v hv
      refine ⟨x, t', z1, z2, ?_⟩
      have hne : x ≠ n := fun z => hnot (by rw [← z]; exact List.mem_of_getElem? z1)
      show _ = some (HO.tup [V.str x, V.ref (setF la n l x)])
      rw [setF_ne _ _ hne]; exact z3
    · intro m hm'
      rw [take_more hm] at hm'
      rcases List.mem_append.mp hm' with h1 | h1
      · have hne : m ≠ n := fun z => hnot (z ▸ h1)
        rw [setF_ne _ _ hne]
        exact ⟨(q m h1).1, (q m h1).2.1, e3 _ _ (q m h1).2.2⟩
      · have : m = n := by simpa using h1
        subst this
        rw [setF_same]
        exact ⟨(ne_of_none hDa hn2).symm, e1.free hn2, same_new hp _ _ h2⟩
    · intro m hm1 m2 hm2 he
      rw [take_more hm] at hm1 hm2
      rcases List.mem_append.mp hm1 with h1 | h1 <;> rcases List.mem_append.mp hm2 with h3 | h3
      · rw [setF_ne _ _ (fun z => hnot (by rw [← z]; exact h1)), setF_ne _ _ (fun z => hnot (by rw [← z]; exact h3))] at he
        exact inj m h1 m2 h3 he
      · have : m2 = n := by simpa using h3
        subst this
        rw [setF_ne _ _ (fun z => hnot (by rw [← z]; exact h1)), setF_same] at he
        exact absurd he (old m h1)
      · have : m = n := by simpa using h1
        subst this
        rw [setF_same, setF_ne _ _ (fun z => hnot (by rw [← z]; exact h3))] at he
        exact absurd he.symm (old m2 h3)
      · have e1 : m = n := by simpa using h1
        have e2 : m2 = n := by simpa using h3
        rw [e1, e2]
  · rintro acc D' H' hD e hp ⟨la, t, q, inj⟩ _
    rw [List.take_of_length_le (by simp)] at t q inj
    exact j_dictP hp t nd fun p H2 hn e2 h2 => k p H2 la (e.free hn) (e.trans e2) h2 (fun n hn => ⟨(q n hn).2.1, e2 _ _ (q n hn).2.2⟩) inj
end
theorem gx_fr {G H H5 H6 : Hp} {x m : Addr} (f : Fr1 m H5 H6) : Fr1 m (gx G H H5 x) (gx G H H6 x) := fun b o h n => by
  by_cases z : b = x
  · subst z; rw [gx_x] at h ⊢; exact f _ _ h n
  · cases q : H b with
    | none => rw [gx_new q] at h ⊢; exact f _ _ h n
    | some u => rw [gx_old z q] at h ⊢; exact h
theorem gx_same {G H H5 H6 : Hp} {x : Addr} (f : Same H5 H6) : Same (gx G H H5 x) (gx G H H6 x) := fun b o h => by
  by_cases z : b = x
  · subst z; rw [gx_x] at h ⊢; exact f _ _ h
  · cases q : H b with
    | none => rw [gx_new q] at h ⊢; exact f _ _ h
    | some u => rw [gx_old z q] at h ⊢; exact h
theorem fr_mut {x m : Addr} {H H1 H2 : Hp} (a : Fr1 x H H1) (h : H m = none) (b : Fr1 m H1 H2) : Fr1 x H H2 := fun c o hc n => b _ _ (a _ _ hc n) (ne_of_none hc h)
/-- each name's list of what is next to it -/
def AdjAt (H : Hp) (la : Str → Addr) (ns : List Str) (F : Str → List Ed) : Prop := ∀ n ∈ ns, ∃ vs, H (la n) = some (.lst vs) ∧ Tups H encE vs (F n)
theorem adj_app {H H1 H2 : Hp} {la : Str → Addr} {ns : List Str} {F : Str → List Ed} {m : Str} {e : Ed} {t : Addr} {vs : List V} (A : AdjAt H la ns F) (hm : m ∈ ns) (inj : ∀ n ∈ ns, ∀ m ∈ ns, la n = la m → n = m) (hvs : H (la m) = some (.lst vs))
    (e1 : Same H H1) (ht : H1 t = some (.tup (encE e))) (f : Fr1 (la m) H1 H2) (h2 : H2 (la m) = some (.lst (vs ++ [.ref t]))) : AdjAt H2 la ns (fun n => if n = m then F n ++ [e] else F n) := by
  have tt : TupS H1 H2 := Fr1.tups f (e1 _ _ hvs) (by intro xs z; cases z)
  intro n hn
  obtain ⟨ws, h3, t3⟩ := A n hn
  by_cases z : n = m
  · subst z
    have : ws = vs := by rw [h3] at hvs; injection hvs with hvs; injection hvs
    subst this
    refine ⟨_, h2, ?_⟩
    show Tups H2 encE _ (if n = n then F n ++ [e] else F n)
    rw [if_pos rfl]
    exact ((t3.stay (Same.tups e1)).stay tt).snoc (tt _ _ ht)
  · refine ⟨ws, f _ _ (e1 _ _ h3) (fun q => z (inj _ hn _ hm q)), ?_⟩
    show Tups H2 encE _ (if n = m then F n ++ [e] else F n)
    rw [if_neg z]
    exact (t3.stay (Same.tups e1)).stay tt
def sp_std_init (K : PySem.W.Frag) : Sp := fun vs H Q _ => ∃ (x dx on ro he : Addr) (names : List Str) (rows : List Row) (hd : List Nat) (coming : Nat) (G : Hp), vs = [.ref x, .ref on, .ref ro, .ref he, .int (coming : Nat)] ∧ H x = some (.ins (gA K "Standing") dx []) ∧ Same G H ∧ G x = none ∧
  G on = some (.lst (names.map V.str)) ∧ RowsAt G ro rows ∧ G he = some (.lst (intsN hd)) ∧ names.Nodup ∧ names.length ≤ 1000 ∧ hd.length ≤ 1000 ∧ (∀ k ∈ hd, ∃ r, rowOf rows k = some r ∧ r.1 ∈ names ∧ r.2.1 ∈ names) ∧
  ∀ (H' G' : Hp), Fr1 x H H' → Same G G' → Same G' H' → (∀ b, b ≠ x → H b ≠ none → G b = none → G' b = none) → StAt' K G' x names rows hd coming → Q .non H'
abbrev N_Standing_init : List Str := ["self", "names", "rows", "held", "coming", "name", "number", "one", "other", "step"]
theorem sc_Standing_init : FnScope N_Standing_init ["self", "names", "rows", "held", "coming"] (defScope s_Standing_init) := ⟨rfl, rfl, rfl, by decide +kernel, rfl, by decide +kernel, by decide +kernel⟩
theorem ok_Standing_init (T : Txt w K mg) : OkF P w K mg base 1 (mA K "Standing" "__init__") ["self", "names", "rows", "held", "coming"] (sp_std_init K) := by
  have cl_Standing := Tc_Standing T
  have na_Standing_coming := Tn_Standing_coming T
  have na_Standing_held := Tn_Standing_held T
  have na_Standing_near := Tn_Standing_near T
  have na_Standing_own_names := Tn_Standing_own_names T
  have na_Standing_rows := Tn_Standing_rows T
  refine okF (Td_Standing_init T) sc_Standing_init (fun _ _ _ _ _ _ us hl => match us, hl with | [_, _, _, _, _], _ => rfl) (fun vs H Q E h => ?_) (fun cdv A outer s H vs Q E hr h => have hu := hu_of hr; ⟨_, (pss_cons (ps_fld (pv 0) (pv 1) rfl)
      (pss_cons (ps_fld (pv 0) (pv 2) rfl)
      (pss_cons (ps_fld (pv 0) (pv 3) rfl)
      (pss_cons (ps_fld (pv 0) (pv 4) rfl)
      (pss_cons (ps_fld (pv 0) (pe_callTy (call_dictJ K rfl) (by rfl) (Tf_dict T) (by decide +kernel) (pa_cons (pe_lc (own := [("name", 5)]) (tt := tYes) rfl sc_Standing_init.nd (pi_list (pv 1)) (blkOk_by (N := N_Standing_init) (sc := defScope s_Standing_init) (by decide +kernel)) (fun _ _ _ _ _ => (pg_name (i := 5) sc_Standing_init.nd rfl (by first | exact Or.inl rfl | exact Or.inr rfl))) (fun _ _ _ _ _ => pts_nil) (fun _ _ _ _ _ => (pe_tup (pa_cons (pv 5) (pa_cons (pe_lst pa_nil) pa_nil))))) pa_nil)) rfl)
      (pss_one (ps_for PassesOwn.never rfl (pi_list (pv 3)) (pg_name (i := 6) sc_Standing_init.nd rfl (by first | exact Or.inl rfl | exact Or.inr rfl))
      (pss_cons (ps_asg (pe_dget hu (pv 2) (pv 6) (fun _ _ => rfl)) (pg_tupK K (n := 3) rfl (pgs_cons (pg_name (i := 7) sc_Standing_init.nd rfl (by first | exact Or.inl rfl | exact Or.inr rfl)) (pgs_cons (pg_name (i := 8) sc_Standing_init.nd rfl (by first | exact Or.inl rfl | exact Or.inr rfl)) (pgs_cons (pg_name (i := 9) sc_Standing_init.nd rfl (by first | exact Or.inl rfl | exact Or.inr rfl)) pgs_nil)))))
      (pss_cons (ps_expr (pe_bm PySem.F.plainAttrs_list PySem.F.slot_list_append PySem.F.type_list_append mt_append (pe_dget hu (pe_fldK K (pv 0) rfl) (pv 7) (fun _ _ => rfl)) (pa_cons (pe_tup (pa_cons (pv 6) (pa_cons pe_int (pa_cons (pv 8) pa_nil)))) pa_nil)))
      (pss_one (ps_expr (pe_bm PySem.F.plainAttrs_list PySem.F.slot_list_append PySem.F.type_list_append mt_append (pe_dget hu (pe_fldK K (pv 0) rfl) (pv 8) (fun _ _ => rfl)) (pa_cons (pe_tup (pa_cons (pv 6) (pa_cons (pe_un un_neg pe_int) (pa_cons (pv 7) pa_nil)))) pa_nil))))))))))))), ?_⟩)
  · obtain ⟨x, dx, on, ro, he, names, rows, hd, coming, G, rfl, _⟩ := h
    rfl
  · obtain ⟨x, dx, on, ro, he, names, rows, hd, coming, G, rfl, hx, eG, hGx, hon, hro, hhe, nd, hz, hzh, hrow, q⟩ := h
    obtain ⟨ra, hro1, hro2⟩ := hro
    have hon' := eG _ _ hon
    have nox : on ≠ x := ne_of_none hon hGx
    have nrx : ro ≠ x := ne_of_none hro1 hGx
    have nhx : he ≠ x := ne_of_none hhe hGx
    walk_at "jrd"
    have F3 : Fr1 x H H'_3 := ((hf.trans hf_1).trans hf_2).trans hf_3
    have hon3 : H'_3 on = _ := F3 _ _ hon' nox
    clear hf hf_1 hf_2 hf_3 hp hp_1 hp_2 hon'
    refine lc_dictL hon3 nd hz (fun n => ⟨rfl, rfl⟩) fun ne H4 la hnn e4 hne hla inj => ?_
    walk_at "jrd"
    have F4 : Fr1 x H H'_4 := (F3.upx e4).trans hf
    have nnx : ne ≠ x := (ne_of_none hp_3 hnn).symm
    have hne4 : H'_4 ne = _ := hf _ _ hne nnx
    have nel : H ne = none := F3.none nnx hnn
    have lax : ∀ n ∈ names, la n ≠ x := fun n hn => (ne_of_none hp_3 (hla n hn).1).symm
    have lan : ∀ n ∈ names, H (la n) = none := fun n hn => F3.none (lax n hn) (hla n hn).1
    have eG4 : Same G H'_4 := Same.mut eG hGx F4
    have A4 : AdjAt (gx G H H'_4 x) la names (edgesOf rows []) := fun n hn => ⟨[], by rw [gx_new (lan n hn)]; exact hf _ _ (hla n hn).2 (lax n hn), Tups.nil⟩
    have hhe4 := eG4 _ _ hhe
    clear hf hne hp_3 hnn e4 hon3 F3 hla hx
    generalize hfs : putF _ _ _ = fs at hp
    have l1 : lk fs "near" (.ref ne) := by rw [← hfs]; walk_at "jlk"
    refine loop_list (xs := intsN hd) (fun j σ H5 => (∃ v5 v6 v7 v8 v9, σ = [some (.ref x), some (.ref on), some (.ref ro), some (.ref he), some (.int (coming : Nat)), v5, v6, v7, v8, v9]) ∧ Fr1 x H H5 ∧ Same G H5 ∧ H5 x = some (.ins (gA K "Standing") dx fs) ∧ H5 ne = some (.dK (dmap names fun n => .ref (la n))) ∧ AdjAt (gx G H H5 x) la names (edgesOf rows (hd.take j)))
      ⟨⟨_, _, _, _, _, rfl⟩, F4, eG4, hp, hne4, A4⟩ (fun j σ H5 _ ⟨_, _, e, _⟩ => e _ _ hhe) ?_ ?_
    · clear hp hne4 A4 hhe4 F4 eG4
      rintro j y σ H5 hj ⟨⟨v5, v6, v7, v8, v9, rfl⟩, F5, eG5, hx5, hne5, A5⟩
      unfold intsN at hj
      rw [List.getElem?_map, Option.map_eq_some_iff] at hj
      obtain ⟨k, hk, rfl⟩ := hj
      obtain ⟨⟨o, p, st⟩, hr, ho, hpn⟩ := hrow k (List.mem_of_getElem? hk)
      have ho : o ∈ names := ho
      have hpn : p ∈ names := hpn
      have hj' : j < hd.length := (List.getElem?_eq_some_iff.mp hk).1
      have ht := hro2 _ (rowOf_mem hr)
      have hro5 := eG5 _ _ hro1
      have ht5 := eG5 _ _ ht
      unfold encR at ht5
      walk_at "jrd"
      refine r_dgetI hro5 (valV_rows hr) ?_
      obtain ⟨vs1, hv1, tv1⟩ := A5 o ho
      have hv1' := gx_in eG F5 _ _ hv1
      have nlo : G (la o) = none := eG.free (lan o ho)
      have nlp : G (la p) = none := eG.free (lan p hpn)
      walk_at "jrd"
      have l1' := edgesOf_len rows o (hd.take j)
      rw [List.length_take] at l1'
      have l2' := tv1.1
      have hp1n : H p_1 = none := F5.none (ne_of_none hx5 hn).symm hn
      refine r_append (he_1 _ _ hv1') (szlt _ (by omega)) fun H6 f6 h6 => ?_
      have A6 := adj_app A5 ho inj hv1 (gx_same he_1) (e := (k, 1, p)) (by rw [gx_new hp1n]; exact hp) (gx_fr f6) (by rw [gx_new (lan o ho)]; exact h6)
      have F6 : Fr1 x H H6 := fr_mut (F5.upx he_1) (lan o ho) f6
      have eG6 : Same G H6 := Same.mut (eG5.trans he_1) nlo f6
      have hx6 : H6 x = _ := f6 _ _ (he_1 _ _ hx5) (ne_of (he_1 _ _ hx5) (he_1 _ _ hv1') (by intro z; cases z))
      have hne6 : H6 ne = _ := f6 _ _ (he_1 _ _ hne5) (ne_of (he_1 _ _ hne5) (he_1 _ _ hv1') (by intro z; cases z))
      clear he_1 hn hp f6 h6 hx5 hne5 hro5 ht5 hv1'
      obtain ⟨vs2, hv2, tv2⟩ := A6 p hpn
      have hv2' := gx_in eG F6 _ _ hv2
      walk_at "jrd"
      have l3' : vs2.length ≤ 2 * hd.length + 1 := by
        rw [tv2.1]
        have := edgesOf_len rows p (hd.take j)
        rw [List.length_take] at this
        show (if p = o then _ else _ : List Ed).length ≤ _
        split <;> (try simp only [List.length_append, List.length_singleton]) <;> omega
      have hp2n : H p_2 = none := F6.none (ne_of_none hx6 hn).symm hn
      refine r_append (he_1 _ _ hv2') (szlt _ (by omega)) fun H7 f7 h7 => ?_
      have A7 := adj_app A6 hpn inj hv2 (gx_same he_1) (e := (k, -1, o)) (by rw [gx_new hp2n]; exact hp) (gx_fr f7) (by rw [gx_new (lan p hpn)]; exact h7)
      have F7 : Fr1 x H H7 := fr_mut (F6.upx he_1) (lan p hpn) f7
      have eG7 : Same G H7 := Same.mut (eG6.trans he_1) nlp f7
      have hx7 : H7 x = _ := f7 _ _ (he_1 _ _ hx6) (ne_of (he_1 _ _ hx6) (he_1 _ _ hv2') (by intro z; cases z))
      have hne7 : H7 ne = _ := f7 _ _ (he_1 _ _ hne6) (ne_of (he_1 _ _ hne6) (he_1 _ _ hv2') (by intro z; cases z))
      refine ⟨⟨_, _, _, _, _, rfl⟩, F7, eG7, hx7, hne7, fun n hn' => ?_⟩
      obtain ⟨ws, q1, q2⟩ := A7 n hn'
      refine ⟨ws, q1, ?_⟩
      have er : edR rows k = (o, p) := by unfold edR; rw [hr]
      have e : edgesOf rows (hd.take (j + 1)) n = (if n = p then (if n = o then edgesOf rows (hd.take j) n ++ [(k, 1, p)] else edgesOf rows (hd.take j) n) ++ [(k, -1, o)] else (if n = o then edgesOf rows (hd.take j) n ++ [(k, 1, p)] else edgesOf rows (hd.take j) n)) := by
        rw [take_more hk, edgesOf_snoc]
        unfold ed1
        rw [er]
        by_cases z1 : n = o
        · by_cases z2 : n = p
          · subst z1; subst z2; simp
          · subst z1; simp [z2, Ne.symm z2]
        · by_cases z2 : n = p
          · subst z2; simp [z1, Ne.symm z1]
          · simp [z1, z2, Ne.symm z1, Ne.symm z2]
      rw [e]
      exact q2
    · rintro σ H5 ⟨⟨v5, v6, v7, v8, v9, rfl⟩, F5, eG5, hx5, hne5, A5⟩
      rw [List.take_of_length_le (by unfold intsN; simp)] at A5
      refine q H5 (gx G H H5 x) F5 (gx_sub eG hGx) (gx_in eG F5) (fun b n h g => gx_none n h g) ⟨dx, on, ro, he, ne, fs, StIns.mk (by rw [gx_x]; exact hx5) ?_ ?_ ?_ ?_ ?_ l1, gx_sub eG hGx _ _ hon, RowsAt.same ⟨ra, hro1, hro2⟩ (gx_sub eG hGx), gx_sub eG hGx _ _ hhe, la, by rw [gx_new nel]; exact hne5, A5⟩
      · rw [← hfs]; walk_at "jnm"
      · rw [← hfs]; walk_at "jlk"
      · rw [← hfs]; walk_at "jlk"
      · rw [← hfs]; walk_at "jlk"
      · rw [← hfs]; walk_at "jlk"
end
section
variable {P : Program} {w : World} {K : PySem.W.Frag} {mg : Str → Option Value} {base : Heap}
/-! ### sorted texts -/
theorem lt_anti : ∀ {a b : List Nat}, PySem.Spec.ltCps a b = false → PySem.Spec.ltCps b a = false → a = b
  | [], [], _, _ => rfl
  | [], _ :: _, h, _ => by cases h
  | _ :: _, [], _, h => by cases h
  | x :: r, y :: t, h1, h2 => by
    simp only [PySem.Spec.ltCps, Bool.or_eq_false_iff, Bool.and_eq_false_iff, decide_eq_false_iff_not, beq_eq_false_iff_ne] at h1 h2
    have e : x = y := by omega
    subst e
    rw [lt_anti (a := r) (b := t) (h1.2.resolve_left (by simp)) (h2.2.resolve_left (by simp))]
theorem le_tr : ∀ {a b c : List Nat}, PySem.Spec.ltCps b a = false → PySem.Spec.ltCps c b = false → PySem.Spec.ltCps c a = false
  | [], _, [], _, _ => rfl
  | [], _, _ :: _, _, _ => rfl
  | _ :: _, [], _, h, _ => by cases h
  | _ :: _, _ :: _, [], _, h => by cases h
  | x :: r, y :: t, z :: u, h1, h2 => by
    simp only [PySem.Spec.ltCps, Bool.or_eq_false_iff, Bool.and_eq_false_iff, decide_eq_false_iff_not, beq_eq_false_iff_ne] at h1 h2 ⊢
    refine ⟨by omega, ?_⟩
    by_cases e : z = x
    · have e1 : y = x := by omega
      have e2 : z = y := by omega
      exact .inr (le_tr (h1.2.resolve_left (fun q => q e1)) (h2.2.resolve_left (fun q => q e2)))
    · exact .inl e
def leS (a b : Str) : Prop := PySem.Spec.ltCps b.cps.toList a.cps.toList = false
theorem leS_tr {a b c : Str} (h1 : leS a b) (h2 : leS b c) : leS a c := le_tr h1 h2
theorem leS_anti {a b : Str} (h1 : leS a b) (h2 : leS b a) : a = b := by
  have := lt_anti h2 h1
  cases a; cases b
  simp only [Str.mk.injEq]
  exact Array.toList_inj.mp this
theorem rising_pw : ∀ {p : Str} {l : List Str}, PyProof.Rows.risingS p l = true → (p :: l).Pairwise leS
  | p, [], _ => List.pairwise_singleton _ _
  | p, x :: r, h => by
    have h' : (!PySem.Spec.ltCps x.cps.toList p.cps.toList && PyProof.Rows.risingS x r) = true := h
    rw [Bool.and_eq_true] at h'
    have h1 : leS p x := by unfold leS; simpa using h'.1
    have h2 := rising_pw h'.2
    refine List.pairwise_cons.mpr ⟨fun y hy => ?_, h2⟩
    rcases List.mem_cons.mp hy with rfl | hy
    · exact h1
    · exact leS_tr h1 ((List.pairwise_cons.mp h2).1 y hy)
theorem sorted_pw {l : List Str} (h : PyProof.Rows.sortedS l = true) : l.Pairwise leS := by
  cases l with
  | nil => exact .nil
  | cons x r => exact rising_pw h
theorem sorted_uniq {a b : List Str} (ha : PyProof.Rows.sortedS a = true) (hb : PyProof.Rows.sortedS b = true) (p : a.Perm b) : a = b :=
  List.Perm.eq_of_pairwise (le := leS) (fun _ _ _ _ h1 h2 => leS_anti h1 h2) (sorted_pw ha) (sorted_pw hb) p
theorem sorted_filter {l : List Str} (h : PyProof.Rows.sortedS l = true) (q : Str → Bool) : PyProof.Rows.sortedS (l.filter q) = true :=
  PyProof.Rows.sortedS_of_pairwise _ ((sorted_pw h).filter q)
theorem perm_of {a b : List Str} (ha : a.Nodup) (hb : b.Nodup) (h : ∀ x, x ∈ a ↔ x ∈ b) : a.Perm b := (List.perm_ext_iff_of_nodup ha hb).mpr h
theorem ints_uniq {ys : List Int} {l : List Nat} (p : ys.Perm (l.map fun k : Nat => (k : Int))) (h : ys.Pairwise (· ≤ ·)) (hl : l.Pairwise (· < ·)) : ys = l.map fun k : Nat => (k : Int) :=
  List.Perm.eq_of_pairwise (le := (· ≤ ·)) (fun a b _ _ h1 h2 => by omega) h (List.pairwise_map.mpr (hl.imp fun h => by omega)) p
/-! ### a standing's own law -/
structure SD where
  names : List Str
  rows : List Row
  coming : Nat
def tri (rows : List Row) : List (Nat × Str × Str) := rows.map fun r => (r.1, r.2.1, r.2.2.1)
structure SD.Ok (D : SD) : Prop where
  nd : D.names.Nodup
  few : D.names.length < 64
  srt : PyProof.Rows.sortedS D.names = true
  rise : (D.rows.map (·.1)).Pairwise (· < ·)
  lt : ∀ r ∈ D.rows, r.1 < D.coming
  inn : ∀ r ∈ D.rows, r.2.1 ∈ D.names ∧ r.2.2.1 ∈ D.names
  co : D.coming ≤ 400
def SD.held (D : SD) : List Nat := holdOf (tri D.rows)
def SD.nums (D : SD) : List Nat := D.rows.map (·.1)
def SD.lab (D : SD) : Str → Str := (labs (tri D.rows)).1
def SD.edges (D : SD) : Str → List Ed := edgesOf D.rows D.held
theorem tri_fst (rows : List Row) : (tri rows).map (·.1) = rows.map (·.1) := by unfold tri; rw [List.map_map]; rfl
theorem SD.Ok.nodup {D : SD} (h : D.Ok) : (D.rows.map (·.1)).Nodup := h.rise.imp fun h => Nat.ne_of_lt h
theorem ed_tri {rows : List Row} (h : (rows.map (·.1)).Nodup) : ∀ r ∈ tri rows, edR rows r.1 = r.2 := by
  intro r hr
  obtain ⟨q, hq, rfl⟩ := List.mem_map.mp hr
  show edR rows q.1 = (q.2.1, q.2.2.1)
  unfold edR
  rw [rowOf_of h (k := q.1) (r := q.2) hq]
theorem row_some {rows : List Row} {k : Nat} (h : k ∈ rows.map (·.1)) : ∃ r, rowOf rows k = some r := by
  obtain ⟨q, hq, rfl⟩ := List.mem_map.mp h
  unfold rowOf
  cases e : rows.find? fun r => r.1 == q.1 with
  | none => exact absurd (List.find?_eq_none.mp e q hq) (by simp)
  | some v => exact ⟨v.2, rfl⟩
theorem SD.Ok.hd {D : SD} (h : D.Ok) (k : Nat) : k ∈ D.held ↔ Hd (edR D.rows) (fun n => n ∈ D.nums) k := by
  have := labs_hd (ed := edR D.rows) (tri D.rows) (ed_tri h.nodup) (by rw [tri_fst]; exact h.rise) k
  rw [tri_fst] at this
  exact this
theorem SD.Ok.heldIn {D : SD} (h : D.Ok) {k : Nat} (hk : k ∈ D.held) : k ∈ D.nums := ((h.hd k).mp hk).1
theorem SD.held_sub (D : SD) : D.held.Sublist D.nums := by
  have := labs_sub (tri D.rows)
  rw [tri_fst] at this; exact this
theorem SD.Ok.len {D : SD} (h : D.Ok) : D.rows.length ≤ 400 := by
  have h1 : (D.rows.map (·.1)).length ≤ (List.range D.coming).length := by
    have : ∀ {l m : List Nat}, l.Nodup → (∀ x ∈ l, x ∈ m) → l.length ≤ m.length := by
      intro l
      induction l with
      | nil => intro m _ _; exact Nat.zero_le _
      | cons x r ih =>
        intro m hn s
        obtain ⟨h1, h2⟩ := List.nodup_cons.mp hn
        have hx := s x (by simp)
        have := ih (m := m.erase x) h2 fun y hy => (List.mem_erase_of_ne (fun z => h1 (by rw [← z]; exact hy))).mpr (s y (by simp [hy]))
        rw [List.length_erase_of_mem hx] at this
        have : 0 < m.length := List.length_pos_of_mem hx
        simp only [List.length_cons]; omega
    refine this h.nodup fun k hk => ?_
    obtain ⟨q, hq, rfl⟩ := List.mem_map.mp hk
    exact List.mem_range.mpr (h.lt q hq)
  rw [List.length_map, List.length_range] at h1
  have := h.co
  omega
theorem SD.Ok.heldLen {D : SD} (h : D.Ok) : D.held.length ≤ 400 := by
  have := D.held_sub.length_le
  unfold SD.nums at this
  rw [List.length_map] at this
  have := h.len; omega
theorem edgesOf_of (rows : List Row) (hd : List Nat) : EdgesOf (edR rows) (fun n => n ∈ hd) (edgesOf rows hd) := by
  intro z n s y
  unfold edgesOf
  rw [List.mem_flatMap]
  constructor
  · rintro ⟨k, hk, h⟩
    unfold ed1 at h
    rcases List.mem_append.mp h with h | h
    · by_cases e : (edR rows k).1 = z
      · rw [if_pos e, List.mem_singleton] at h
        obtain ⟨rfl, h2⟩ := Prod.mk.inj h
        obtain ⟨rfl, rfl⟩ := Prod.mk.inj h2
        exact ⟨hk, .inl ⟨rfl, by rw [← e]⟩⟩
      · rw [if_neg e] at h; cases h
    · by_cases e : (edR rows k).2 = z
      · rw [if_pos e, List.mem_singleton] at h
        obtain ⟨rfl, h2⟩ := Prod.mk.inj h
        obtain ⟨rfl, rfl⟩ := Prod.mk.inj h2
        exact ⟨hk, .inr ⟨rfl, by rw [← e]⟩⟩
      · rw [if_neg e] at h; cases h
  · rintro ⟨hk, h⟩
    refine ⟨n, hk, ?_⟩
    unfold ed1
    rcases h with ⟨rfl, h⟩ | ⟨rfl, h⟩
    · rw [h]; simp
    · rw [h]; simp
theorem SD.Ok.near {D : SD} (h : D.Ok) : NearOk D.names D.edges := by
  refine ⟨fun n hn e he => ?_, by have := h.few; omega, fun n hn => ?_⟩
  · obtain ⟨k, s, y⟩ := e
    obtain ⟨hk, h2⟩ := (edgesOf_of D.rows D.held _ _ _ _).mp he
    obtain ⟨r, hr⟩ := row_some (h.heldIn hk)
    have hm := h.inn _ (rowOf_mem hr)
    have er : edR D.rows k = (r.1, r.2.1) := by unfold edR; rw [hr]
    rcases h2 with ⟨_, h2⟩ | ⟨_, h2⟩ <;> rw [er] at h2 <;> obtain ⟨h3, h4⟩ := Prod.mk.inj h2
    · show y ∈ D.names; rw [← h4]; exact hm.2
    · show y ∈ D.names; rw [← h3]; exact hm.1
  · have := edgesOf_len D.rows n D.held
    have := h.heldLen
    show (edgesOf D.rows D.held n).length ≤ 1000
    omega
theorem SD.Ok.cn {D : SD} (h : D.Ok) (x y : Str) : D.lab x = D.lab y ↔ Cn (edR D.rows) (fun n => n ∈ D.nums) x y := by
  have := labs_cn (ed := edR D.rows) (tri D.rows) (ed_tri h.nodup) x y
  rw [tri_fst] at this; exact this
theorem SD.Ok.cnHeld {D : SD} (h : D.Ok) (x y : Str) : D.lab x = D.lab y ↔ Cn (edR D.rows) (fun n => n ∈ D.held) x y := by
  rw [h.cn, ← span_iff]
  constructor
  · exact fun q => q.mono fun k hk => (h.hd k).mpr hk
  · exact fun q => q.mono fun k hk => (h.hd k).mp hk
theorem SD.Ok.reach {D : SD} (h : D.Ok) {x y : Str} {L : List (Str × Wy)} (g : Grow D.edges x L) (c : Closed D.edges L) : y ∈ L.map (·.1) ↔ D.lab x = D.lab y := by
  rw [h.cnHeld]
  exact g.iff (edgesOf_of D.rows D.held) c
structure StAt (K : PySem.W.Frag) (G : Hp) (a : Addr) (D : SD) : Prop where
  st : StAt' K G a D.names D.rows D.held D.coming
  ok : D.Ok
theorem StAt.same {K : PySem.W.Frag} {G H : Hp} {a : Addr} {D : SD} (S : StAt K G a D) (e : Same G H) : StAt K H a D := ⟨S.st.same e, S.ok⟩
theorem StAt.insx {K : PySem.W.Frag} {G : Hp} {a : Addr} {D : SD} (S : StAt K G a D) : ∃ dx fs, G a = some (.ins (gA K "Standing") dx fs) ∧ NoM standKeys fs := by
  obtain ⟨dx, on, ro, he, ne, fs, I, _⟩ := S.st.ins
  exact ⟨dx, fs, I.h, I.nm⟩
end
section
variable {P : Program} {w : World} {K : PySem.W.Frag} {mg : Str → Option Value} {base : Heap}
theorem inV_two (n a b : Str) : inV (.str n) [.str a, .str b] = decide (a = n ∨ b = n) := by
  unfold inV
  simp only [List.any_cons, List.any_nil, Bool.or_false, eqV]
  rw [Bool.eq_iff_iff]
  simp
theorem inV_strs (n : Str) (l : List Str) : inV (.str n) (l.map V.str) = decide (n ∈ l) := by
  unfold inV
  rw [List.any_map, Bool.eq_iff_iff]
  simp only [List.any_eq_true, Function.comp, eqV, decide_eq_true_eq, beq_iff_eq]
  constructor
  · rintro ⟨x, hx, rfl⟩; exact hx
  · intro h; exact ⟨n, h, rfl⟩
theorem inV_ints (n : Nat) (l : List Nat) : inV (.int (n : Nat)) (intsN l) = decide (n ∈ l) := by
  unfold inV intsN
  rw [List.any_map, Bool.eq_iff_iff]
  simp only [List.any_eq_true, Function.comp, eqV, decide_eq_true_eq, beq_iff_eq]
  constructor
  · rintro ⟨x, hx, e⟩
    have : x = n := by omega
    subst this; exact hx
  · intro h; exact ⟨n, h, rfl⟩
section
variable {K : PySem.W.Frag} {H : Hp} {Q : VK}
theorem r_inT {p : Addr} {xs : List V} {x : V} (h : H p = some (.tup xs)) (f1 : flatV x = true) (f2 : xs.all flatV = true) (k : Q (.bl (inV x xs)) H) : rIn K false x (.ref p) H Q := ⟨p, xs, rfl, .inr (SqT.of h), f1, f2, k⟩
theorem r_inL {p : Addr} {xs : List V} {x : V} (h : H p = some (.lst xs)) (f1 : flatV x = true) (f2 : xs.all flatV = true) (k : Q (.bl (inV x xs)) H) : rIn K false x (.ref p) H Q := ⟨p, xs, rfl, .inl (SqL.of h), f1, f2, k⟩
theorem r_ninT {p : Addr} {xs : List V} {x : V} (h : H p = some (.tup xs)) (f1 : flatV x = true) (f2 : xs.all flatV = true) (k : Q (.bl (!inV x xs)) H) : rIn K true x (.ref p) H Q := ⟨p, xs, rfl, .inr (SqT.of h), f1, f2, k⟩
theorem r_ninL {p : Addr} {xs : List V} {x : V} (h : H p = some (.lst xs)) (f1 : flatV x = true) (f2 : xs.all flatV = true) (k : Q (.bl (!inV x xs)) H) : rIn K true x (.ref p) H Q := ⟨p, xs, rfl, .inl (SqL.of h), f1, f2, k⟩
theorem fl_strs (l : List Str) : (l.map V.str).all flatV = true := by rw [List.all_map, List.all_eq_true]; intro x _; rfl
theorem fl_ints (l : List Nat) : (intsN l).all flatV = true := by unfold intsN; rw [List.all_map, List.all_eq_true]; intro x _; rfl
end
def stepOf (rows : List Row) (k : Nat) : Int := match rowOf rows k with | some r => r.2.2 | none => 0
def encN (r : Row) : List V := [.int (r.1 : Nat), .str r.2.1, .str r.2.2.1, .int r.2.2.2]
abbrev N_Standing_has_name : List Str := ["self", "name"]
theorem sc_Standing_has_name : FnScope N_Standing_has_name ["self", "name"] (defScope s_Standing_has_name) := ⟨rfl, rfl, rfl, by decide +kernel, rfl, by decide +kernel, by decide +kernel⟩
theorem ok_Standing_has_name (T : Txt w K mg) : OkF P w K mg base 1 (mA K "Standing" "has_name") ["self", "name"] (fun vs H Q _ => ∃ (x : Addr) (n : Str) (D : SD), vs = [.ref x, .str n] ∧ StAt K H x D ∧ Q (.bl (decide (n ∈ D.names))) H) := by
  have cl_Standing := Tc_Standing T
  have na_Standing_near := Tn_Standing_near T
  refine okF (Td_Standing_has_name T) sc_Standing_has_name (fun _ _ _ _ _ _ us hl => match us, hl with | [_, _], _ => rfl) (fun vs H Q E h => ?_) (fun cdv A outer s H vs Q E hr h => have hu := hu_of hr; ⟨_, (pss_one (ps_ret (pe_cmp (pc_din hu (pv 1) (pe_fldK K (pv 0) rfl)) rfl))), ?_⟩)
  · obtain ⟨x, n, D, rfl, _⟩ := h
    rfl
  · obtain ⟨x, n, D, rfl, S, q⟩ := h
    obtain ⟨dx, on, ro, he, ne, fs, I, h1, h2, h3, la, h4, h5⟩ := S.st.ins
    have i1 := I.h; have i2 := I.ne
    walk_at "jrd"
    refine r_dinS h4 ?_
    rw [valV_dmap_some]
    exact q
def sp_ways (K : PySem.W.Frag) : Sp := fun vs H Q _ => ∃ (x : Addr) (n : Str) (D : SD), vs = [.ref x, .str n] ∧ StAt K H x D ∧ n ∈ D.names ∧
  ∀ (p : Addr) (H' : Hp) (L : List (Str × Wy)), H p = none → Same H H' → FoundAt H' p L → Grow D.edges n L → Closed D.edges L → Q (.ref p) H'
abbrev N_Standing_ways_from : List Str := ["self", "name"]
theorem sc_Standing_ways_from : FnScope N_Standing_ways_from ["self", "name"] (defScope s_Standing_ways_from) := ⟨rfl, rfl, rfl, by decide +kernel, rfl, by decide +kernel, by decide +kernel⟩
theorem ok_Standing_ways_from (T : Txt w K mg) : OkF P w K mg base 2 (mA K "Standing" "ways_from") ["self", "name"] (sp_ways K) := by
  obtain ⟨fd_walked, c_walked⟩ := ok_walked (P := P) (base := base) T
  have cl_Standing := Tc_Standing T
  have na_Standing_near := Tn_Standing_near T
  refine okF (Td_Standing_ways_from T) sc_Standing_ways_from (fun _ _ _ _ _ _ us hl => match us, hl with | [_, _], _ => rfl) (fun vs H Q E h => ?_) (fun cdv A outer s H vs Q E hr h => have hu := hu_of hr; ⟨_, (pss_one (ps_ret (pe_call c_walked.1 (hr.mono (by decide)) rfl (Tg_walked T) c_walked.2.2 c_walked.2.1 .nil pass0 (pa_cons (pe_fldK K (pv 0) rfl) (pa_cons (pv 1) pa_nil))))), ?_⟩)
  · obtain ⟨x, n, D, rfl, _⟩ := h
    rfl
  · obtain ⟨x, n, D, rfl, S, hn, q⟩ := h
    obtain ⟨dx, on, ro, he, ne, fs, I, h1, h2, h3, h4⟩ := S.st.ins
    have i1 := I.h; have i2 := I.ne
    walk_at "jrd"
    exact ⟨ne, n, D.names, D.edges, rfl, h4, S.ok.near, hn, q⟩
def sp_steps_on (K : PySem.W.Frag) : Sp := fun vs H Q _ => ∃ (x a : Addr) (turn : Int) (w : Wy) (D : SD), vs = [.ref x, .int turn, .ref a] ∧ StAt K H x D ∧ WayAt H a w ∧ (∀ p ∈ w, p.1 ∈ D.nums ∧ (p.2 = 1 ∨ p.2 = -1)) ∧ w.length ≤ 1000 ∧
  ∀ H', Same H H' → Q (.int (cnt turn (wsum (stepOf D.rows) w))) H'
abbrev N_Standing_steps_on : List Str := ["self", "turn", "way", "number", "side"]
theorem sc_Standing_steps_on : FnScope N_Standing_steps_on ["self", "turn", "way"] (defScope s_Standing_steps_on) := ⟨rfl, rfl, rfl, by decide +kernel, rfl, by decide +kernel, by decide +kernel⟩
theorem ok_Standing_steps_on (T : Txt w K mg) : OkF P w K mg base 2 (mA K "Standing" "steps_on") ["self", "turn", "way"] (sp_steps_on K) := by
  obtain ⟨fd_counted, c_counted⟩ := ok_counted (P := P) (base := base) T
  have cl_Standing := Tc_Standing T
  have na_Standing_rows := Tn_Standing_rows T
  refine okF (Td_Standing_steps_on T) sc_Standing_steps_on (fun _ _ _ _ _ _ us hl => match us, hl with | [_, _, _], _ => rfl) (fun vs H Q E h => ?_) (fun cdv A outer s H vs Q E hr h => have hu := hu_of hr; ⟨_, (pss_one (ps_ret (pe_call c_counted.1 (hr.mono (by decide)) rfl (Tg_counted T) c_counted.2.2 c_counted.2.1 .nil pass0 (pa_cons (pv 1) (pa_cons (pe_callB (cr_sum rfl) (by rfl) (Tf_sum T) (by decide +kernel) (pa_cons (pe_lc (own := [("number", 3), ("side", 4)]) (tt := tYes) rfl sc_Standing_steps_on.nd (pi_tup (pv 2)) (blkOk_by (N := N_Standing_steps_on) (sc := defScope s_Standing_steps_on) (by decide +kernel)) (fun _ _ _ _ _ => (pg_tupK K (n := 2) rfl (pgs_cons (pg_name (i := 3) sc_Standing_steps_on.nd rfl (by first | exact Or.inl rfl | exact Or.inr rfl)) (pgs_cons (pg_name (i := 4) sc_Standing_steps_on.nd rfl (by first | exact Or.inl rfl | exact Or.inr rfl)) pgs_nil)))) (fun _ _ _ _ _ => pts_nil) (fun _ _ _ _ _ => (pe_op op_mul (pv 4) (pe_ix (ix_tupK K) (pe_dget hu (pe_fldK K (pv 0) rfl) (pv 3) (fun _ _ => rfl)) pe_int (fun _ _ => rfl))))) pa_nil)) pa_nil))))), ?_⟩)
  · obtain ⟨x, a, turn, w, D, rfl, _⟩ := h
    rfl
  · obtain ⟨x, a, turn, w', D, rfl, S, ⟨vs, hw, tw⟩, hin, hlen, q⟩ := h
    have lw := tw.1
    walk_at "jrd"
    refine lc_M [] walk_tup (fun H' f => SqT.of (frM_nil f _ _ hw)) (by omega) (by simp) (fun i acc H' => acc = ((w'.take i).map fun p => p.2 * stepOf D.rows p.1).map V.int) rfl (fun i acc H1 H2 p t m => p) ?_ ?_
    · rintro i y acc H3 H3' KY KN hi rfl f1 ⟨rfl, hy⟩ hacc hY hN
      have e1 := frM_nil f1
      obtain ⟨⟨k, s'⟩, t, hp, rfl, ht⟩ := (tw.stay (Same.tups e1)).2 i y hy
      obtain ⟨hk, hs1⟩ := hin _ (List.mem_of_getElem? hp)
      have hs1 : s' = 1 ∨ s' = -1 := hs1
      obtain ⟨r, hr⟩ := row_some hk
      obtain ⟨dx, on, ro, he, ne, fs, I, h1, ⟨ra, h2, h2'⟩, h3, h4⟩ := (S.same e1).st.ins
      have i1 := I.h; have i2 := I.ro
      have hrt := h2' _ (rowOf_mem hr)
      unfold encP at ht
      unfold encR at hrt
      clear f1
      walk_at "jrd"
      refine ⟨rfl, ?_⟩
      walk_at "jrd"
      refine ite_T rfl ?_
      walk_at "jrd"
      refine r_dgetI h2 (valV_rows hr) ?_
      walk_at "jrd"
      refine r_I (.inl (by rcases hs1 with rfl | rfl <;> decide)) ?_
      refine hY _ _ (FrM.refl _ _) ?_
      rw [take_more hp, List.map_append, List.map_append]
      have es : stepOf D.rows k = r.2.2 := by unfold stepOf; rw [hr]
      simp [es]
    · rintro acc D' H' hD f hp rfl _
      rw [List.take_of_length_le (by omega)] at hp
      walk_at "jrd"
      refine ⟨turn, _, rfl, ?_⟩
      exact q _ (frM_nil f)
def sp_class (K : PySem.W.Frag) : Sp := fun vs H Q _ => ∃ (x : Addr) (n : Str) (D : SD), vs = [.ref x, .str n] ∧ StAt K H x D ∧ n ∈ D.names ∧
  ∀ (p : Addr) (H' : Hp), H p = none → Same H H' → H' p = some (.lst ((D.names.filter fun m => D.lab n = D.lab m).map V.str)) → Q (.ref p) H'
theorem SD.Ok.cls {D : SD} (ok : D.Ok) {n : Str} {L : List (Str × Wy)} {ys : List Str} (hn : n ∈ D.names) (g : Grow D.edges n L) (c : Closed D.edges L) (hp : ys.Perm (L.map (·.1))) (hs : PyProof.Rows.sortedS ys = true) : ys = D.names.filter fun m => D.lab n = D.lab m := by
  refine sorted_uniq hs (sorted_filter ok.srt _) (hp.trans (perm_of g.nodup (ok.nd.filter _) fun y => ?_))
  rw [ok.reach g c, List.mem_filter]
  constructor
  · intro h
    exact ⟨grow_sub g hn ok.near y ((ok.reach g c).mpr h), by simpa using h⟩
  · intro h
    simpa using h.2
abbrev N_Standing_class_with : List Str := ["self", "name"]
theorem sc_Standing_class_with : FnScope N_Standing_class_with ["self", "name"] (defScope s_Standing_class_with) := ⟨rfl, rfl, rfl, by decide +kernel, rfl, by decide +kernel, by decide +kernel⟩
theorem ok_Standing_class_with (T : Txt w K mg) : OkF P w K mg base 3 (mA K "Standing" "class_with") ["self", "name"] (sp_class K) := by
  obtain ⟨fd_Standing_ways_from, c_Standing_ways_from⟩ := ok_Standing_ways_from (P := P) (base := base) T
  have cl_Standing := Tc_Standing T
  refine okF (Td_Standing_class_with T) sc_Standing_class_with (fun _ _ _ _ _ _ us hl => match us, hl with | [_, _], _ => rfl) (fun vs H Q E h => ?_) (fun cdv A outer s H vs Q E hr h => have hu := hu_of hr; ⟨_, (pss_one (ps_ret (pe_callB (call_sortDJ rfl) (by rfl) (Tf_sorted T) (by decide +kernel) (pa_cons (pe_meth (pv 0) (Tc_Standing T) (Tm_Standing_ways_from T) c_Standing_ways_from.1 (hr.mono (by decide)) c_Standing_ways_from.2.1 .nil pass0 (pa_cons (pv 1) pa_nil)) pa_nil)))), ?_⟩)
  · obtain ⟨x, n, D, rfl, _⟩ := h
    rfl
  · obtain ⟨x, n, D, rfl, S, hn, q⟩ := h
    obtain ⟨dx, fs, i1, i2⟩ := S.insx
    walk_at "jrd"
    refine ⟨x, n, D, rfl, S, hn, fun p H1 L hp e1 ⟨wa, F1, _⟩ g c => ?_⟩
    walk_at "jrd"
    have hl : (L.map (·.1)).length < 64 := Nat.lt_of_le_of_lt (nodup_sub_len g.nodup (grow_sub g hn S.ok.near)) S.ok.few
    refine j_sortD F1 (by unfold dmap; rw [List.map_map]; rfl) hl fun ys p2 H2 hy hs hn2 e2 h2 => ?_
    rw [S.ok.cls hn g c hy hs] at h2
    exact q p2 H2 (e1.free hn2) (e1.trans e2) h2
def sp_told (K : PySem.W.Frag) : Sp := fun vs H Q _ => ∃ (x : Addr) (D : SD), vs = [.ref x] ∧ StAt K H x D ∧
  ∀ (p : Addr) (H' : Hp) (ws : List V), H p = none → Same H H' → H' p = some (.lst ws) → Tups H' encN ws D.rows → Q (.ref p) H'
theorem sorted_nums {D : SD} (ok : D.Ok) {ys : List Int} (hy : ys.Perm (D.nums.map fun k : Nat => (k : Int))) (hs : ys.Pairwise (· ≤ ·)) : ys = D.nums.map fun k : Nat => (k : Int) := ints_uniq hy hs ok.rise
theorem rows_keys (rows : List Row) (ra : Nat → Addr) : (rows.map fun r => ((Sum.inl (r.1 : Int) : Key), V.ref (ra r.1))).map (·.1) = ((rows.map (·.1)).map fun k : Nat => (k : Int)).map Sum.inl := by
  rw [List.map_map, List.map_map, List.map_map]; rfl
abbrev N_Standing_rows_told : List Str := ["self", "number"]
theorem sc_Standing_rows_told : FnScope N_Standing_rows_told ["self"] (defScope s_Standing_rows_told) := ⟨rfl, rfl, rfl, by decide +kernel, rfl, by decide +kernel, by decide +kernel⟩
theorem ok_Standing_rows_told (T : Txt w K mg) : OkF P w K mg base 1 (mA K "Standing" "rows_told") ["self"] (sp_told K) := by
  have cl_Standing := Tc_Standing T
  have na_Standing_rows := Tn_Standing_rows T
  refine okF (Td_Standing_rows_told T) sc_Standing_rows_told (fun _ _ _ _ _ _ us hl => match us, hl with | [_], _ => rfl) (fun vs H Q E h => ?_) (fun cdv A outer s H vs Q E hr h => have hu := hu_of hr; ⟨_, (pss_one (ps_ret (pe_lc (own := [("number", 1)]) (tt := tYes) rfl sc_Standing_rows_told.nd (pi_list (pe_callB (call_sortNJ rfl) (by rfl) (Tf_sorted T) (by decide +kernel) (pa_cons (pe_fldK K (pv 0) rfl) pa_nil))) (blkOk_by (N := N_Standing_rows_told) (sc := defScope s_Standing_rows_told) (by decide +kernel)) (fun _ _ _ _ _ => (pg_name (i := 1) sc_Standing_rows_told.nd rfl (by first | exact Or.inl rfl | exact Or.inr rfl))) (fun _ _ _ _ _ => pts_nil) (fun _ _ _ _ _ => (pe_op (op_catK K) (pe_tup (pa_cons (pv 1) pa_nil)) (pe_dget hu (pe_fldK K (pv 0) rfl) (pv 1) (fun _ _ => rfl))))))), ?_⟩)
  · obtain ⟨x, D, rfl, _⟩ := h
    rfl
  · obtain ⟨x, D, rfl, S, q⟩ := h
    obtain ⟨dx, on, ro, he, ne, fs, I, h1, ⟨ra, h2, h2'⟩, h3, h4⟩ := S.st.ins
    have i1 := I.h; have i2 := I.ro
    walk_at "jrd"
    refine j_sortN h2 (rows_keys _ _) fun ys p1 H1 hy hs hn1 e1 h1' => ?_
    rw [sorted_nums S.ok hy hs] at h1'
    walk_at "jrd"
    have hl := S.ok.len
    refine lc_M [] walk_list (fun H' f => SqL.of (frM_nil f _ _ h1')) (by unfold SD.nums; simp; omega) (by simp) (fun i acc H' => Tups H' encN acc (D.rows.take i)) Tups.nil (fun i acc H1 H2 p t m => p.stay t) ?_ ?_
    · rintro i y acc H3 H3' KY KN hi p3 f3 ⟨rfl, hy⟩ hacc hY hN
      have e3 := frM_nil f3
      unfold SD.nums at hy
      rw [List.map_map, List.map_map, List.getElem?_map, Option.map_eq_some_iff] at hy
      obtain ⟨r, hr, rfl⟩ := hy
      have hrm : r ∈ D.rows := List.mem_of_getElem? hr
      have ht := h2' _ hrm
      have hro := rowOf_of S.ok.nodup (k := r.1) (r := r.2) hrm
      unfold encR at ht
      have e03 := e1.trans e3
      have j1 := e03 _ _ i1
      have j2 := e03 _ _ h2
      have j3 := e03 _ _ ht
      clear f3 e3 e1 i1 h2 ht hn1
      show gName _ (V.int ((r.1 : Nat) : Int)) _ _ _
      walk_at "jrd"
      refine ⟨rfl, ?_⟩
      walk_at "jrd"
      refine ite_T rfl ?_
      walk_at "jrd"
      refine r_dgetI (he_1 _ _ j2) (valV_rows hro) ?_
      refine j_cat (by walk_at "jhp") (by walk_at "jhp") (by simp) fun p5 H5 e5 h5 => ?_
      refine hY _ _ (Same.frM (he_1.trans e5)) ?_
      rw [take_more hr]
      exact (p3.stay (Same.tups (he_1.trans e5))).snoc h5
    · rintro acc D' H' hD f hp p _
      have el : ((D.nums.map fun k : Nat => (k : Int)).map V.int).length = D.rows.length := by unfold SD.nums; simp
      rw [el, List.take_length] at p
      exact q D' H' acc (e1.free hD) (e1.trans (frM_nil f)) hp p
def sp_numbers (K : PySem.W.Frag) : Sp := fun vs H Q _ => ∃ (x : Addr) (n : Str) (D : SD), vs = [.ref x, .str n] ∧ StAt K H x D ∧
  ∀ (p : Addr) (H' : Hp), H p = none → Same H H' → H' p = some (.lst (intsN ((D.rows.filter fun r => r.2.1 = n ∨ r.2.2.1 = n).map (·.1)))) → Q (.ref p) H'
abbrev N_Standing_numbers_at : List Str := ["self", "name", "number"]
theorem sc_Standing_numbers_at : FnScope N_Standing_numbers_at ["self", "name"] (defScope s_Standing_numbers_at) := ⟨rfl, rfl, rfl, by decide +kernel, rfl, by decide +kernel, by decide +kernel⟩
theorem ok_Standing_numbers_at (T : Txt w K mg) : OkF P w K mg base 1 (mA K "Standing" "numbers_at") ["self", "name"] (sp_numbers K) := by
  have cl_Standing := Tc_Standing T
  have na_Standing_rows := Tn_Standing_rows T
  refine okF (Td_Standing_numbers_at T) sc_Standing_numbers_at (fun _ _ _ _ _ _ us hl => match us, hl with | [_, _], _ => rfl) (fun vs H Q E h => ?_) (fun cdv A outer s H vs Q E hr h => have hu := hu_of hr; ⟨_, (pss_one (ps_ret (pe_lc (own := [("number", 2)]) rfl sc_Standing_numbers_at.nd (pi_list (pe_callB (call_sortNJ rfl) (by rfl) (Tf_sorted T) (by decide +kernel) (pa_cons (pe_fldK K (pv 0) rfl) pa_nil))) (blkOk_by (N := N_Standing_numbers_at) (sc := defScope s_Standing_numbers_at) (by decide +kernel)) (fun _ _ _ _ _ => (pg_name (i := 2) sc_Standing_numbers_at.nd rfl (by first | exact Or.inl rfl | exact Or.inr rfl))) (fun _ _ _ _ _ => (pts_one (pt_cmpR (op_inK K) (pv 1) (pe_slice (sl_tupK K) (pe_dget hu (pe_fldK K (pv 0) rfl) (pv 2) (fun _ _ => rfl)) po_none (po_some pe_int)) (by rfl)))) (fun _ _ _ _ _ => (pv 2))))), ?_⟩)
  · obtain ⟨x, n, D, rfl, _⟩ := h
    rfl
  · obtain ⟨x, n, D, rfl, S, q⟩ := h
    obtain ⟨dx, on, ro, he, ne, fs, I, h1, ⟨ra, h2, h2'⟩, h3, h4⟩ := S.st.ins
    have i1 := I.h; have i2 := I.ro
    walk_at "jrd"
    refine j_sortN h2 (rows_keys _ _) fun ys p1 H1 hy hs hn1 e1 h1' => ?_
    rw [sorted_nums S.ok hy hs] at h1'
    walk_at "jrd"
    have hl := S.ok.len
    refine lc_M [] walk_list (fun H' f => SqL.of (frM_nil f _ _ h1')) (by unfold SD.nums; simp; omega) (by simp) (fun i acc H' => acc = intsN (((D.rows.take i).filter fun r => r.2.1 = n ∨ r.2.2.1 = n).map (·.1))) rfl (fun i acc H1 H2 p t m => p) ?_ ?_
    · rintro i y acc H3 H3' KY KN hi rfl f3 ⟨rfl, hy⟩ hacc hY hN
      have e3 := frM_nil f3
      unfold SD.nums at hy
      rw [List.map_map, List.map_map, List.getElem?_map, Option.map_eq_some_iff] at hy
      obtain ⟨r, hr, rfl⟩ := hy
      have hrm : r ∈ D.rows := List.mem_of_getElem? hr
      have ht := h2' _ hrm
      have hro := rowOf_of S.ok.nodup (k := r.1) (r := r.2) hrm
      unfold encR at ht
      have e03 := e1.trans e3
      have j1 := e03 _ _ i1
      have j2 := e03 _ _ h2
      have j3 := e03 _ _ ht
      rw [take_more hr, List.filter_append, List.map_append] at hY hN
      unfold intsN at hY hN
      rw [List.map_append] at hY hN
      clear f3 e3 e1 i1 h2 ht hn1
      show gName _ (V.int ((r.1 : Nat) : Int)) _ _ _
      walk_at "jrd"
      refine ⟨rfl, ?_⟩
      walk_at "jrd"
      refine r_dgetI j2 (valV_rows hro) ?_
      walk_at "jrd"
      refine r_inT hp rfl rfl ?_
      rw [inV_two]
      walk_at "jrd"
      refine ite_of (fun z => ?_) (fun z => ?_)
      · walk_at "jrd"
        refine hY _ _ (Same.frM he_1) ?_
        rw [List.filter_cons_of_pos (by simpa using z)]; rfl
      · refine hN _ (Same.frM he_1) ?_
        rw [List.filter_cons_of_neg (by simpa using z)]; simp
    · rintro acc D' H' hD f hp rfl _
      have el : ((D.nums.map fun k : Nat => (k : Int)).map V.int).length = D.rows.length := by unfold SD.nums; simp
      rw [el, List.take_length] at hp
      exact q D' H' (e1.free hD) (e1.trans (frM_nil f)) hp
end
section
variable {P : Program} {w : World} {K : PySem.W.Frag} {mg : Str → Option Value} {base : Heap}
/-! ### a new standing -/
def gh (G H H' : Hp) : Hp := fun b => match H b with | none => H' b | some _ => G b
theorem gh_new {G H H' : Hp} {b : Addr} (h : H b = none) : gh G H H' b = H' b := by unfold gh; rw [h]
theorem gh_old {G H H' : Hp} {b : Addr} {o : HO} (h : H b = some o) : gh G H H' b = G b := by unfold gh; rw [h]
theorem gh_sub {G H H' : Hp} (e : Same G H) : Same G (gh G H H') := fun b o h => by rw [gh_old (e _ _ h)]; exact h
theorem gh_in {G H H' : Hp} (e : Same G H) (f : Same H H') : Same (gh G H H') H' := fun b o h => by
  cases q : H b with
  | none => rw [gh_new q] at h; exact h
  | some u => rw [gh_old q] at h; exact f _ _ (e _ _ h)
theorem gh_none {G H H' : Hp} {b : Addr} (h : H b ≠ none) (g : G b = none) : gh G H H' b = none := by
  cases q : H b with
  | none => exact absurd q h
  | some u => rw [gh_old q]; exact g
theorem gh_same {G H H5 H6 : Hp} (f : Same H5 H6) : Same (gh G H H5) (gh G H H6) := fun b o h => by
  cases q : H b with
  | none => rw [gh_new q] at h ⊢; exact f _ _ h
  | some u => rw [gh_old q] at h ⊢; exact h
/-- what is known grows; what was there and not known stays unknown -/
structure GrowG (G H G' H' : Hp) : Prop where
  sub : Same G G'
  inn : Same G' H'
  non : ∀ b, H b ≠ none → G b = none → G' b = none
theorem GrowG.refl {G H : Hp} (e : Same G H) : GrowG G H G H := ⟨fun _ _ h => h, e, fun _ _ h => h⟩
theorem GrowG.trans {G H G1 H1 G2 H2 : Hp} (a : GrowG G H G1 H1) (e : Same H H1) (b : GrowG G1 H1 G2 H2) : GrowG G H G2 H2 :=
  ⟨a.sub.trans b.sub, b.inn, fun c h1 h2 => b.non c (fun z => h1 (e.free z)) (a.non c h1 h2)⟩
theorem GrowG.of {G H H' : Hp} (e : Same G H) (f : Same H H') : GrowG G H (gh G H H') H' := ⟨gh_sub e, gh_in e f, fun _ h g => gh_none h g⟩
section
variable {K : PySem.W.Frag} {Q : VK} {E : XK}
theorem r_makeStd {G H Hc : Hp} {on ro he : Addr} {names : List Str} {rows : List Row} {hd : List Nat} {coming : Nat} (eG : Same G H) (e : Same H Hc) (h1 : gh G H Hc on = some (.lst (names.map V.str))) (h2 : RowsAt (gh G H Hc) ro rows) (h3 : gh G H Hc he = some (.lst (intsN hd)))
    (nd : names.Nodup) (hz : names.length ≤ 1000) (hzh : hd.length ≤ 1000) (hrow : ∀ k ∈ hd, ∃ r, rowOf rows k = some r ∧ r.1 ∈ names ∧ r.2.1 ∈ names)
    (k : ∀ (a : Addr) (H' G' : Hp), Same H H' → GrowG G H G' H' → StAt' K G' a names rows hd coming → H a = none → Q (.ref a) H') : rMake (gA K "Standing") (sp_std_init K) E Q [.ref on, .ref ro, .ref he, .int (coming : Nat)] Hc := by
  refine r_make fun x dx H5 hn5 e5 hx => ?_
  have hxH : H x = none := e.free hn5
  have g1 : Same (gh G H Hc) H5 := (gh_in eG e).trans e5
  have gx0 : gh G H Hc x = none := by rw [gh_new hxH]; exact hn5
  refine ⟨x, dx, on, ro, he, names, rows, hd, coming, gh G H Hc, rfl, hx, g1, gx0, h1, h2, h3, nd, hz, hzh, hrow, fun H6 G6 f6 s1 s2 nn S6 => ⟨rfl, ?_⟩⟩
  refine k x H6 G6 (Same.mut (e.trans e5) hxH f6) ⟨(gh_sub eG).trans s1, s2, fun b hb gb => ?_⟩ S6 hxH
  refine nn b (fun z => hb (z ▸ hxH)) (fun z => hb ((e.trans e5).free z)) (gh_none hb gb)
end
theorem SD.Ok.heldRow {D : SD} (ok : D.Ok) : ∀ k ∈ D.held, ∃ r, rowOf D.rows k = some r ∧ r.1 ∈ D.names ∧ r.2.1 ∈ D.names := fun k hk => by
  obtain ⟨r, hr⟩ := row_some (ok.heldIn hk)
  exact ⟨r, hr, ok.inn _ (rowOf_mem hr)⟩
theorem RowsAt.copy {H H' : Hp} {ro p : Addr} {rows : List Row} (h : RowsAt H ro rows) (e : Same H H') (hp : ∀ kvs, H ro = some (.dK kvs) → H' p = some (.dK kvs)) : RowsAt H' p rows := by
  obtain ⟨ra, h1, h2⟩ := h
  exact ⟨ra, hp _ h1, fun r hr => e _ _ (h2 r hr)⟩
def sp_with_name (K : PySem.W.Frag) : Sp := fun vs H Q _ => ∃ (x : Addr) (n : Str) (D : SD) (G : Hp), vs = [.ref x, .str n] ∧ Same G H ∧ StAt K G x D ∧ ¬ n ∈ D.names ∧ D.names.length < 63 ∧
  ∀ (a : Addr) (H' G' : Hp) (ys : List Str), Same H H' → GrowG G H G' H' → ys.Perm (D.names ++ [n]) → StAt K G' a ⟨ys, D.rows, D.coming⟩ → Q (.ref a) H'
abbrev N_Standing_with_name : List Str := ["self", "name"]
theorem sc_Standing_with_name : FnScope N_Standing_with_name ["self", "name"] (defScope s_Standing_with_name) := ⟨rfl, rfl, rfl, by decide +kernel, rfl, by decide +kernel, by decide +kernel⟩
theorem ok_Standing_with_name (T : Txt w K mg) : OkF P w K mg base 3 (mA K "Standing" "with_name") ["self", "name"] (sp_with_name K) := by
  obtain ⟨fd_Standing_init, c_Standing_init⟩ := ok_Standing_init (P := P) (base := base) T
  have cl_Standing := Tc_Standing T
  have na_Standing_coming := Tn_Standing_coming T
  have na_Standing_held := Tn_Standing_held T
  have na_Standing_own_names := Tn_Standing_own_names T
  have na_Standing_rows := Tn_Standing_rows T
  refine okF (Td_Standing_with_name T) sc_Standing_with_name (fun _ _ _ _ _ _ us hl => match us, hl with | [_, _], _ => rfl) (fun vs H Q E h => ?_) (fun cdv A outer s H vs Q E hr h => have hu := hu_of hr; ⟨_, (pss_one (ps_ret (pe_make (Tk_Standing T) c_Standing_init.1 (hr.mono (by decide)) rfl (Tg_Standing T) c_Standing_init.2.1 .nil pass0 (pa_cons (pe_callB cr_sortedS (by rfl) (Tf_sorted T) (by decide +kernel) (pa_cons (pe_op op_cat (pe_fldK K (pv 0) rfl) (pe_lst (pa_cons (pv 1) pa_nil))) pa_nil)) (pa_cons (pe_callTy call_dictDJ (by rfl) (Tf_dict T) (by decide +kernel) (pa_cons (pe_fldK K (pv 0) rfl) pa_nil)) (pa_cons (pe_callTy (call_listJ K) (by rfl) (Tf_list T) (by decide +kernel) (pa_cons (pe_fldK K (pv 0) rfl) pa_nil)) (pa_cons (pe_fldK K (pv 0) rfl) pa_nil))))))), ?_⟩)
  · obtain ⟨x, n, D, G, rfl, _⟩ := h
    rfl
  · obtain ⟨x, n, D, G, rfl, eG, S, hn, hl, q⟩ := h
    obtain ⟨dx, on, ro, he, ne, fs, I, h1, h2, h3, h4⟩ := S.st.ins
    have i1 := eG _ _ I.h; have i2 := I.on; have i3 := I.ro; have i4 := I.he; have i5 := I.co
    have j1 := eG _ _ h1
    obtain ⟨ra, h21, h22⟩ := h2
    have j2 := eG _ _ h21
    have j3 := eG _ _ h3
    walk_at "jrd"
    have hp0' : H'_1 p_1 = some (.lst ((D.names ++ [n]).map V.str)) := by rw [List.map_append]; exact hp_1
    refine r_sortedS hp0' (by simp; omega) fun ys p4 H4 hy hs hn4 e4 hp4 => ?_
    have e14 : Same H H4 := (he_1.trans he_2).trans e4
    have k1 := e14 _ _ i1
    have k2 := e14 _ _ j2
    have k3 := e14 _ _ j3
    have m1 : H p4 = none := (he_1.trans he_2).free hn4
    clear i1 j1 j2 j3 he_1 he_2 hp_1 hp hp0' hn_1 hn_2
    walk_at "jrd"
    have e2 := e14.trans he_1
    have e3 := e2.trans he_2
    have ok := S.ok
    have hlen := hy.length_eq
    rw [List.length_append] at hlen
    have nd' : ys.Nodup := by
      refine hy.nodup_iff.mpr (List.nodup_append.mpr ⟨ok.nd, by simp, fun a ha b hb z => hn ?_⟩)
      have e : b = n := by simpa using hb
      rw [← e, ← z]; exact ha
    have sub : ∀ m ∈ D.names, m ∈ ys := fun m hm => hy.mem_iff.mpr (List.mem_append_left _ hm)
    refine r_makeStd (rows := D.rows) (hd := D.held) eG e3 (by rw [gh_new m1]; exact he_2 _ _ (he_1 _ _ hp4)) ⟨ra, by rw [gh_new (e14.free hn_1)]; exact he_2 _ _ hp, fun r hr => gh_sub eG _ _ (h22 r hr)⟩ (by rw [gh_new (e2.free hn_2)]; exact hp_1) nd' (by simp at hlen; omega) (by have := ok.heldLen; omega)
      (fun k hk => by obtain ⟨r, z1, z2, z3⟩ := ok.heldRow k hk; exact ⟨r, z1, sub _ z2, sub _ z3⟩) fun a H' G' s g S' _ => ?_
    exact q a H' G' ys s g hy ⟨S', ⟨nd', by show ys.length < 64; simp at hlen; omega, hs, ok.rise, ok.lt, fun r hr => ⟨sub _ (ok.inn r hr).1, sub _ (ok.inn r hr).2⟩, ok.co⟩⟩
def SD.more (D : SD) (r : Str × Str × Int) : SD := ⟨D.names, D.rows ++ [(D.coming, r)], D.coming + 1⟩
theorem SD.more_held (D : SD) (r : Str × Str × Int) : (D.more r).held = if D.lab r.1 = D.lab r.2.1 then D.held else D.held ++ [D.coming] := by
  unfold SD.held SD.more SD.lab holdOf
  have e : tri (D.rows ++ [(D.coming, r)]) = tri D.rows ++ [(D.coming, r.1, r.2.1)] := by unfold tri; rw [List.map_append]; rfl
  show (labs (tri (D.rows ++ [(D.coming, r)]))).2 = _
  rw [e, labs_snoc]
  unfold lstp
  by_cases h : (labs (tri D.rows)).1 r.1 = (labs (tri D.rows)).1 r.2.1
  · rw [if_pos h, if_pos h]
  · rw [if_neg h, if_neg h]
theorem SD.Ok.more {D : SD} (ok : D.Ok) {r : Str × Str × Int} (h1 : r.1 ∈ D.names) (h2 : r.2.1 ∈ D.names) (hc : D.coming < 400) : (D.more r).Ok := by
  have hm : ∀ q ∈ D.rows ++ [(D.coming, r)], q ∈ D.rows ∨ q = (D.coming, r) := fun q hq => by
    rcases List.mem_append.mp hq with h | h
    · exact .inl h
    · exact .inr (by simpa using h)
  refine ⟨ok.nd, ok.few, ok.srt, ?_, fun q hq => ?_, fun q hq => ?_, by show D.coming + 1 ≤ 400; omega⟩
  · show ((D.rows ++ [(D.coming, r)]).map (·.1)).Pairwise (· < ·)
    rw [List.map_append, List.pairwise_append]
    refine ⟨ok.rise, by simp, fun a ha b hb => ?_⟩
    obtain ⟨q, hq, rfl⟩ := List.mem_map.mp ha
    have : b = D.coming := by simpa using hb
    rw [this]; exact ok.lt q hq
  · show q.1 < D.coming + 1
    rcases hm q hq with h | h
    · have := ok.lt q h; omega
    · rw [h]; simp
  · show q.2.1 ∈ D.names ∧ q.2.2.1 ∈ D.names
    rcases hm q hq with h | h
    · exact ok.inn q h
    · rw [h]; exact ⟨h1, h2⟩
def sp_with_joining (K : PySem.W.Frag) : Sp := fun vs H Q _ => ∃ (x t : Addr) (r : Str × Str × Int) (D : SD) (G : Hp), vs = [.ref x, .ref t, .bl (decide (¬ D.lab r.1 = D.lab r.2.1))] ∧ Same G H ∧ StAt K G x D ∧ G t = some (.tup (encR r)) ∧ r.1 ∈ D.names ∧ r.2.1 ∈ D.names ∧ D.coming < 400 ∧
  ∀ (a : Addr) (H' G' : Hp), Same H H' → GrowG G H G' H' → StAt K G' a (D.more r) → Q (.ref a) H'
abbrev N_Standing_with_joining : List Str := ["self", "joining", "holds", "rows", "held"]
theorem sc_Standing_with_joining : FnScope N_Standing_with_joining ["self", "joining", "holds"] (defScope s_Standing_with_joining) := ⟨rfl, rfl, rfl, by decide +kernel, rfl, by decide +kernel, by decide +kernel⟩
theorem ok_Standing_with_joining (T : Txt w K mg) : OkF P w K mg base 3 (mA K "Standing" "with_joining") ["self", "joining", "holds"] (sp_with_joining K) := by
  obtain ⟨fd_Standing_init, c_Standing_init⟩ := ok_Standing_init (P := P) (base := base) T
  have cl_Standing := Tc_Standing T
  have na_Standing_coming := Tn_Standing_coming T
  have na_Standing_held := Tn_Standing_held T
  have na_Standing_own_names := Tn_Standing_own_names T
  have na_Standing_rows := Tn_Standing_rows T
  refine okF (Td_Standing_with_joining T) sc_Standing_with_joining (fun _ _ _ _ _ _ us hl => match us, hl with | [_, _, _], _ => rfl) (fun vs H Q E h => ?_) (fun cdv A outer s H vs Q E hr h => have hu := hu_of hr; ⟨_, (pss_cons (ps_set (i := 3) sc_Standing_with_joining.nd rfl (by first | exact Or.inl rfl | exact Or.inr rfl) (pe_callTy call_dictDJ (by rfl) (Tf_dict T) (by decide +kernel) (pa_cons (pe_fldK K (pv 0) rfl) pa_nil)))
      (pss_cons (ps_dput hu (pv 3) (pe_fldK K (pv 0) rfl) (pv 1) rfl)
      (pss_cons (ps_set (i := 4) sc_Standing_with_joining.nd rfl (by first | exact Or.inl rfl | exact Or.inr rfl) (pe_callTy (call_listJ K) (by rfl) (Tf_list T) (by decide +kernel) (pa_cons (pe_fldK K (pv 0) rfl) pa_nil)))
      (pss_cons (ps_if (pt_val (pv 2)) (pss_one (ps_expr (pe_bm PySem.F.plainAttrs_list PySem.F.slot_list_append PySem.F.type_list_append mt_append (pv 4) (pa_cons (pe_fldK K (pv 0) rfl) pa_nil)))) pss_nil)
      (pss_one (ps_ret (pe_make (Tk_Standing T) c_Standing_init.1 (hr.mono (by decide)) rfl (Tg_Standing T) c_Standing_init.2.1 .nil pass0 (pa_cons (pe_fldK K (pv 0) rfl) (pa_cons (pv 3) (pa_cons (pv 4) (pa_cons (pe_op op_add (pe_fldK K (pv 0) rfl) pe_int) pa_nil))))))))))), ?_⟩)
  · obtain ⟨x, t, r, D, G, rfl, _⟩ := h
    rfl
  · obtain ⟨x, t, r, D, G, rfl, eG, S, ht, hr1, hr2, hc, q⟩ := h
    obtain ⟨dx, on, ro, he, ne, fs, I, h1, ⟨ra, h21, h22⟩, h3, h4⟩ := S.st.ins
    have i1 := eG _ _ I.h; have i2 := I.on; have i3 := I.ro; have i4 := I.he; have i5 := I.co
    have j2 := eG _ _ h21
    have j3 := eG _ _ h3
    have ok := S.ok
    have okM := ok.more hr1 hr2 hc
    have hlr := ok.len
    have hlh := ok.heldLen
    walk_at "jrd"
    refine r_dputI hp (szlt _ (by rw [List.length_map]; omega)) fun H2 f2 h2 => ?_
    have nro : ro ≠ p := ne_of_none j2 hn
    have ehe : H2 he = _ := f2 _ _ (he_1 _ _ j3) (ne_of_none j3 hn)
    have ex : H2 x = _ := f2 _ _ (he_1 _ _ i1) (ne_of_none i1 hn)
    have s2 : Same H H2 := Same.mut he_1 hn f2
    have hcn : ¬ D.coming ∈ D.rows.map (·.1) := fun z => by
      obtain ⟨w, hw, e⟩ := List.mem_map.mp z
      have := ok.lt w hw; omega
    rw [putK_new _ (valV_rows_not hcn)] at h2
    walk_at "jrd"
    have npp : p ≠ p_1 := ne_of_none h2 hn_1
    have np1 : H p_1 = none := s2.free hn_1
    have heldE := D.more_held r
    have hrow := okM.heldRow
    have fin : ∀ H3, Same H H3 → H3 p = H2 p → H3 p_1 = some (.lst (intsN (D.more r).held)) → rMake (gA K "Standing") (sp_std_init K) E0 Q [.ref on, .ref p, .ref p_1, .int ((D.coming + 1 : Nat) : Int)] H3 := by
      intro H3 s3 h3p h3h
      refine r_makeStd (names := D.names) (rows := D.rows ++ [(D.coming, r)]) (hd := (D.more r).held) eG s3 (gh_sub eG _ _ h1) ⟨fun k => if k = D.coming then t else ra k, ?_, fun w hw => ?_⟩ (by rw [gh_new np1]; exact h3h) ok.nd (by have := ok.few; omega) (by have := okM.heldLen; omega) hrow fun a H' G' s g S' _ => q a H' G' s g ⟨S', okM⟩
      · rw [gh_new hn, h3p, h2, List.map_append]
        refine congrArg (fun z => some (HO.dK z)) ?_
        refine congr (congrArg (· ++ ·) (List.map_congr_left fun w hw => ?_)) ?_
        · show _ = (Sum.inl (w.1 : Int), V.ref (if w.1 = D.coming then t else ra w.1))
          rw [if_neg (fun z => by have := ok.lt w hw; omega)]
        · show _ = [(Sum.inl (D.coming : Int), V.ref (if D.coming = D.coming then t else ra D.coming))]
          rw [if_pos rfl]
      · rcases List.mem_append.mp hw with h | h
        · show gh G H H3 (if w.1 = D.coming then t else ra w.1) = _
          rw [if_neg (fun z => by have := ok.lt w h; omega)]
          exact gh_sub eG _ _ (h22 w h)
        · have : w = (D.coming, r) := by simpa using h
          subst this
          show gh G H H3 (if D.coming = D.coming then t else _) = _
          rw [if_pos rfl]
          exact gh_sub eG _ _ ht
    refine ite_of (fun hne => ?_) (fun heq => ?_)
    · walk_at "jrd"
      rw [if_neg hne] at heldE
      refine r_append hp_1 (szlt _ (by unfold intsN; rw [List.length_map]; omega)) fun H4 f4 h4 => ?_
      have ex4 : H4 x = _ := f4 _ _ (he_2 _ _ ex) (ne_of (he_2 _ _ ex) hp_1 (by intro z; cases z))
      walk_at "jrd"
      refine fin H4 (Same.mut (s2.trans he_2) np1 f4) ?_ ?_
      · rw [h2]; exact f4 _ _ (he_2 _ _ h2) npp
      · rw [h4, heldE]; unfold intsN; rw [List.map_append]; rfl
    · have heq : D.lab r.1 = D.lab r.2.1 := by simpa using heq
      rw [if_pos heq] at heldE
      walk_at "jrd"
      refine fin H'_1 (s2.trans he_2) ?_ ?_
      · rw [h2]; exact he_2 _ _ h2
      · rw [heldE]; exact hp_1
end
section
variable {P : Program} {w : World} {K : PySem.W.Frag} {mg : Str → Option Value} {base : Heap}
theorem r_dgetF {H : Hp} {Q : VK} {d : Addr} {o : Obj} {ns : List Str} {f : Str → V} {n : Str} (h : H d = some (.frz o (.dK (dmap ns f)))) (hn : n ∈ ns) (k : Q (f n) H) : rDGet (.ref d) Q (.str n) H :=
  ⟨d, f n, rfl, .inl ⟨_, Sum.inr n, .inr ⟨o, h⟩, rfl, (valV_dmap hn).symm⟩, k⟩
def CrP (D : SD) (k j : Nat) : Prop := j ≠ k ∧ Cross (edR D.rows) (fun n => n ∈ D.nums) k j
def sp_crossing (K : PySem.W.Frag) : Sp := fun vs H Q _ => ∃ (x : Addr) (k : Nat) (D : SD), vs = [.ref x, .int (k : Nat)] ∧ StAt K H x D ∧ k ∈ D.held ∧
  ∀ (H' : Hp), Same H H' → (∀ j ∈ D.nums, CrP D k j → (∀ i ∈ D.nums, i < j → ¬ CrP D k i) → Q (.int (j : Nat)) H') ∧ ((∀ j ∈ D.nums, ¬ CrP D k j) → Q .non H')
abbrev N_Standing_crossing : List Str := ["self", "number", "one", "near", "name", "edge", "half", "other", "ends"]
theorem sc_Standing_crossing : FnScope N_Standing_crossing ["self", "number"] (defScope s_Standing_crossing) := ⟨rfl, rfl, rfl, by decide +kernel, rfl, by decide +kernel, by decide +kernel⟩
theorem ok_Standing_crossing (T : Txt w K mg) : OkF P w K mg base 2 (mA K "Standing" "crossing") ["self", "number"] (sp_crossing K) := by
  obtain ⟨fd_walked, c_walked⟩ := ok_walked (P := P) (base := base) T
  have cl_Standing := Tc_Standing T
  have na_Standing_near := Tn_Standing_near T
  have na_Standing_rows := Tn_Standing_rows T
  refine okF (Td_Standing_crossing T) sc_Standing_crossing (fun _ _ _ _ _ _ us hl => match us, hl with | [_, _], _ => rfl) (fun vs H Q E h => ?_) (fun cdv A outer s H vs Q E hr h => have hu := hu_of hr; ⟨_, (pss_cons (ps_set (i := 2) sc_Standing_crossing.nd rfl (by first | exact Or.inl rfl | exact Or.inr rfl) (pe_ix (ix_tupK K) (pe_dget hu (pe_fldK K (pv 0) rfl) (pv 1) (fun _ _ => rfl)) pe_int (fun _ _ => rfl)))
      (pss_cons (ps_set (i := 3) sc_Standing_crossing.nd rfl (by first | exact Or.inl rfl | exact Or.inr rfl) pe_dnewK)
      (pss_cons (ps_lock (ps_for PassesOwn.never rfl (pi_keys (pe_fldK K (pv 0) rfl)) (pg_name (i := 4) sc_Standing_crossing.nd rfl (by first | exact Or.inl rfl | exact Or.inr rfl))
      (pss_one (ps_dput hu (pv 3) (pv 4) (pe_lc (own := [("edge", 5)]) rfl sc_Standing_crossing.nd (pi_list (pe_dget hu (pe_fldK K (pv 0) rfl) (pv 4) (fun _ _ => rfl))) (blkOk_by (N := N_Standing_crossing) (sc := defScope s_Standing_crossing) (by decide +kernel)) (fun _ _ _ _ _ => (pg_name (i := 5) sc_Standing_crossing.nd rfl (by first | exact Or.inl rfl | exact Or.inr rfl))) (fun _ _ _ _ _ => (pts_one (pt_cmpR op_ne (pe_ix (ix_tupK K) (pv 5) pe_int (fun _ _ => rfl)) (pv 1) (nomark _)))) (fun _ _ _ _ _ => (pv 5))) rfl))))
      (pss_cons (ps_set (i := 6) sc_Standing_crossing.nd rfl (by first | exact Or.inl rfl | exact Or.inr rfl) (pe_call c_walked.1 (hr.mono (by decide)) rfl (Tg_walked T) c_walked.2.2 c_walked.2.1 .nil pass0 (pa_cons (pv 3) (pa_cons (pv 2) pa_nil))))
      (pss_cons (ps_for PassesOwn.never rfl (pi_list (pe_callB (call_sortNJ rfl) (by rfl) (Tf_sorted T) (by decide +kernel) (pa_cons (pe_fldK K (pv 0) rfl) pa_nil))) (pg_name (i := 7) sc_Standing_crossing.nd rfl (by first | exact Or.inl rfl | exact Or.inr rfl))
      (pss_cons (ps_set (i := 8) sc_Standing_crossing.nd rfl (by first | exact Or.inl rfl | exact Or.inr rfl) (pe_dget hu (pe_fldK K (pv 0) rfl) (pv 7) (fun _ _ => rfl)))
      (pss_one (ps_if (PW.pt (pw_and (pt_cmpR op_ne (pv 7) (pv 1) (nomark _)) (pw_and1 (pt_cmpR op_ne (pe_cmp (pc_din hu (pe_ix (ix_tupK K) (pv 8) pe_int (fun _ _ => rfl)) (pv 6)) rfl) (pe_cmp (pc_din hu (pe_ix (ix_tupK K) (pv 8) pe_int (fun _ _ => rfl)) (pv 6)) rfl) (nomark _))))) (pss_one (ps_ret (pv 7))) pss_nil))))
      (pss_one (ps_ret pe_non))))))), ?_⟩)
  · obtain ⟨x, k, D, rfl, _⟩ := h
    rfl
  · obtain ⟨x, k, D, rfl, S, hk, q⟩ := h
    obtain ⟨dx, on, ro, he, ne, fs, I, h1, ⟨ra, h21, h22⟩, h3, la, h4, h5⟩ := S.st.ins
    have i1 := I.h; have i2 := I.ro; have i3 := I.ne
    obtain ⟨r, hr⟩ := row_some (S.ok.heldIn hk)
    have hrt := h22 _ (rowOf_mem hr)
    unfold encR at hrt
    walk_at "jrd"
    refine r_dgetI h21 (valV_rows hr) ?_
    walk_at "jrd"
    have hne := he_1 _ _ h4
    have npn : p ≠ ne := (ne_of_none h4 hn).symm
    refine ⟨ne, _, hne, trivial, fun od => ?_⟩
    have nxn : x ≠ ne := ne_of I.h h4 (by intro z; cases z)
    have i1' : upd H' ne (.frz od (.dK (dmap D.names fun n => .ref (la n)))) x = _ := (upd_ne nxn).trans (he_1 _ _ i1)
    have g0 : ∀ b o, H b = some o → b ≠ ne → upd H' ne (.frz od (.dK (dmap D.names fun n => .ref (la n)))) b = some o := fun b o h n => (upd_ne n).trans (he_1 _ _ h)
    have gp : upd H' ne (.frz od (.dK (dmap D.names fun n => .ref (la n)))) p = some (.dK []) := (upd_ne npn).trans hp
    have gn : upd H' ne (.frz od (.dK (dmap D.names fun n => .ref (la n)))) ne = some (.frz od (.dK (dmap D.names fun n => .ref (la n)))) := upd_same
    generalize upd H' ne (.frz od (.dK (dmap D.names fun n => .ref (la n)))) = H1 at *
    refine w_for (w_fld (w_var rfl (r_fld i1' (by assumption) (by assumption) i3 ⟨ne, od, rfl, .inl ⟨_, gn, ?_⟩⟩)))
    refine loop_walk walk_keys (fun i σ H2 => (∃ v4 v5 v6 v7 v8, σ = [some (.ref x), some (.int (k : Nat)), some (.str r.1), some (.ref p), v4, v5, v6, v7, v8]) ∧ (∀ b o, H b = some o → b ≠ ne → H2 b = some o) ∧ H2 ne = some (.frz od (.dK (dmap D.names fun n => .ref (la n)))) ∧ ∃ lb : Str → Addr, H2 p = some (.dK (dmap (D.names.take i) fun n => .ref (lb n))) ∧ ∀ n ∈ D.names.take i, ∃ vs, H2 (lb n) = some (.lst vs) ∧ Tups H2 encE vs ((D.edges n).filter fun e => e.1 ≠ k))
      ⟨⟨_, _, _, _, _, rfl⟩, g0, gn, fun _ => 0, gp, by simp⟩ (fun i σ H2 _ p => p.2.2.1) ?_ ?_
    · clear g0 gp gn i1' H1
      rintro i y σ H2 H2' hi ⟨⟨v4, v5, v6, v7, v8, rfl⟩, g2, gn2, lb, gp2, gl2⟩ ⟨rfl, kk, vv, hkv, rfl⟩
      unfold dmap at hkv
      rw [List.getElem?_map, Option.map_eq_some_iff] at hkv
      obtain ⟨n, hm, hkv⟩ := hkv
      obtain ⟨rfl, rfl⟩ := Prod.mk.inj hkv
      have hnn : n ∈ D.names := List.mem_of_getElem? hm
      obtain ⟨vs, hvs, tvs⟩ := h5 n hnn
      have i1' := g2 _ _ i1 nxn
      have hvs2 := g2 _ _ hvs (ne_of hvs h4 (by intro z; cases z))
      have tvs2 : Tups _ encE vs (D.edges n) := tvs.stay (fun t xs h => g2 _ _ h (ne_of h h4 (by intro z; cases z)))
      have hEl := S.ok.near.fewE n hnn
      have hvl := tvs.1
      have hnot : ¬ n ∈ D.names.take i := fun z => by
        obtain ⟨j', hj', hje⟩ := List.mem_iff_getElem.mp z
        rw [List.length_take] at hj'
        have h2 : D.names[j']? = some n := by rw [← hje, List.getElem_take]; exact List.getElem?_eq_getElem _
        have h3 := (List.getElem?_inj (by omega) S.ok.nd).mp (h2.trans hm.symm)
        omega
      have hEe : edgesOf D.rows D.held n = D.edges n := rfl
      rw [hEe] at hvl
      refine w_gname (w_dput (w_lc (w_iList (w_dget (w_fld (w_var rfl (r_fld i1' (by assumption) (by assumption) i3 (w_var rfl (r_dgetF gn2 hnn (r_iterL hvs2 ?_))))))))))
      refine lc_M [] walk_list (fun H' f => SqL.of (frM_nil f _ _ hvs2)) (by omega) (by simp) (fun i acc H' => Tups H' encE acc (((D.edges n).take i).filter fun e => e.1 ≠ k)) Tups.nil (fun i acc H1 H2 p t m => p.stay t) ?_ ?_
      · rintro j y acc H3 H3' KY KN hj p3 f3 ⟨rfl, hy⟩ hacc hY hN
        have e3 := frM_nil f3
        obtain ⟨e, t, he, rfl, ht⟩ := (tvs2.stay (Same.tups e3)).2 j y hy
        have ht' := ht
        unfold encE at ht
        rw [take_more he, List.filter_append] at hY hN
        clear f3 e3 g2 gn2 gp2 gl2
        walk_at "jrd"
        refine ⟨rfl, ?_⟩
        walk_at "jrd"
        refine ite_nof (fun z => ?_) (fun z => ?_)
        · walk_at "jrd"
          have z' : e.1 ≠ k := fun q => z (by rw [q])
          refine hY _ _ (FrM.refl _ _) ?_
          rw [List.filter_cons_of_pos (by simpa using z')]
          exact p3.snoc ht'
        · have z' : e.1 = k := by omega
          refine hN _ (FrM.refl _ _) ?_
          rw [List.filter_cons_of_neg (by simpa using z'), List.filter_nil, List.append_nil]
          exact p3
      · rintro acc D' H3 hD f hp3 t3 _
        rw [List.take_of_length_le (by omega)] at t3
        have e3 := frM_nil f
        have gp3 := e3 _ _ gp2
        have hil : i < D.names.length := (List.getElem?_eq_some_iff.mp hm).1
        have fewN := S.ok.few
        refine w_var rfl (w_var rfl (r_dputS gp3 (szlt _ (by rw [dmap_len, List.length_take]; omega)) fun H4 f4 h4 => ?_))
        rw [putK_dmap_new hnot] at h4
        have tt : TupS H3 H4 := Fr1.tups f4 gp3 (by intro xs z; cases z)
        refine ⟨⟨_, _, _, _, _, rfl⟩, fun b o h n => f4 _ _ (e3 _ _ (g2 _ _ h n)) (ne_of_none h hn), f4 _ _ (e3 _ _ gn2) npn.symm, setF lb n D', ?_, fun m hm' => ?_⟩
        · rw [take_more hm, h4]
          refine congrArg (fun z => some (HO.dK z)) (List.map_congr_left fun m _ => ?_)
          show (Sum.inr m, setF (fun n => V.ref (lb n)) n (.ref D') m) = (Sum.inr m, V.ref (setF lb n D' m))
          unfold setF; split <;> rfl
        · rw [take_more hm] at hm'
          by_cases z : m = n
          · subst z
            rw [setF_same]
            exact ⟨acc, f4 _ _ hp3 (ne_of hp3 gp3 (by intro z; cases z)), t3.stay tt⟩
          · rw [setF_ne _ _ z]
            have hmi : m ∈ D.names.take i := by
              rcases List.mem_append.mp hm' with h | h
              · exact h
              · exact absurd (by simpa using h) z
            obtain ⟨ws, h6, h7⟩ := gl2 m hmi
            exact ⟨ws, f4 _ _ (e3 _ _ h6) (ne_of (e3 _ _ h6) gp3 (by intro z; cases z)), (h7.stay (Same.tups e3)).stay tt⟩
    · rintro σ H2 ⟨⟨v4, v5, v6, v7, v8, rfl⟩, g2, gn2, lb, gp2, gl2⟩
      refine ⟨gn2, ?_⟩
      have el : (dmap D.names fun n => V.ref (la n)).length = D.names.length := dmap_len _ _
      rw [el, List.take_length] at gp2 gl2
      have s3 : Same H (upd H2 ne (.dK (dmap D.names fun n => .ref (la n)))) := fun b o h => by
        by_cases z : b = ne
        · subst z; rw [upd_same, ← h4]; exact h
        · rw [upd_ne z]; exact g2 _ _ h z
      have nr3 : NearAt (upd H2 ne (.dK (dmap D.names fun n => .ref (la n)))) p D.names (fun n => (D.edges n).filter fun e => e.1 ≠ k) := by
        refine ⟨lb, (upd_ne npn).trans gp2, fun n hn' => ?_⟩
        obtain ⟨vs, h6, h7⟩ := gl2 n hn'
        refine ⟨vs, (upd_ne (ne_of h6 gn2 (by intro z; cases z))).trans h6, h7.stay fun t xs ht => (upd_ne (ne_of ht gn2 (by intro z; cases z))).trans ht⟩
      generalize upd H2 ne (.dK (dmap D.names fun n => .ref (la n))) = H3 at *
      clear gn2 gp2 gl2 g2 hne hp he_1
      have okn : NearOk D.names (fun n => (D.edges n).filter fun e => e.1 ≠ k) := ⟨fun n hn e he => S.ok.near.into n hn e (List.mem_filter.mp he).1, S.ok.near.few, fun n hn => Nat.le_trans (List.length_filter_le _ _) (S.ok.near.fewE n hn)⟩
      have hone : r.1 ∈ D.names := (S.ok.inn _ (rowOf_mem hr)).1
      walk_at "jrd"
      refine ⟨p, r.1, D.names, _, rfl, nr3, okn, hone, fun p4 H4 L hn4 e4 ⟨wa, F4, _⟩ g c => ?_⟩
      have s4 := s3.trans e4
      have reach : ∀ y, y ∈ L.map (·.1) ↔ Cn (edR D.rows) (Wo (edR D.rows) (fun n => n ∈ D.nums) k) (edR D.rows k).1 y := fun y => by
        have hE : EdgesOf (edR D.rows) (fun n => n ∈ D.held ∧ n ≠ k) (fun n => (D.edges n).filter fun e => e.1 ≠ k) := by
          intro z n s y
          rw [List.mem_filter]
          have := edgesOf_of D.rows D.held z n s y
          constructor
          · rintro ⟨h6, h7⟩
            obtain ⟨h8, h9⟩ := this.mp h6
            exact ⟨⟨h8, by simpa using h7⟩, h9⟩
          · rintro ⟨⟨h6, h7⟩, h8⟩
            exact ⟨this.mpr ⟨h6, h8⟩, by simpa using h7⟩
        rw [g.iff hE c, show (edR D.rows k).1 = r.1 by unfold edR; rw [hr]]
        constructor
        · exact fun q => q.mono fun i hi => ⟨(S.ok.hd i).mp hi.1, hi.2⟩
        · exact fun q => q.mono fun i hi => ⟨(S.ok.hd i).mpr hi.1, hi.2⟩
      have j1 := s4 _ _ i1
      have j2 := s4 _ _ h21
      clear s3 e4 nr3 i1 hrt
      walk_at "jrd"
      refine j_sortN j2 (rows_keys _ _) fun ys p5 H5 hy hs hn5 e5 h5' => ?_
      rw [sorted_nums S.ok hy hs] at h5'
      have e05 := s4.trans e5
      have F5 := e5 _ _ F4
      have k1 := e5 _ _ j1
      have k2 := e5 _ _ j2
      clear j1 j2 F4 e5
      walk_at "jrd"
      refine loop_list (xs := (D.nums.map fun k : Nat => (k : Int)).map V.int) (fun i σ H6 => H6 = H5 ∧ (∃ v7 v8, σ = [some (.ref x), some (.int (k : Nat)), some (.str r.1), some (.ref p), v4, v5, some (.ref p4), v7, v8]) ∧ ∀ j ∈ D.nums.take i, ¬ CrP D k j) ⟨rfl, ⟨_, _, rfl⟩, by simp⟩ (fun i σ H6 _ p => p.1 ▸ h5') ?_ ?_
      · rintro i y σ H6 hi ⟨rfl, ⟨v7, v8, rfl⟩, hno⟩
        rw [List.map_map, List.getElem?_map, Option.map_eq_some_iff] at hi
        obtain ⟨j, hj, rfl⟩ := hi
        have hjm : j ∈ D.nums := List.mem_of_getElem? hj
        obtain ⟨r2, hr2⟩ := row_some hjm
        have ht2 := e05 _ _ (h22 _ (rowOf_mem hr2))
        unfold encR at ht2
        have er2 : edR D.rows j = (r2.1, r2.2.1) := by unfold edR; rw [hr2]
        have more : ¬ CrP D k j → ∀ j' ∈ D.nums.take (i + 1), ¬ CrP D k j' := fun hc j' hj' => by
          rw [take_more hj] at hj'
          rcases List.mem_append.mp hj' with h | h
          · exact hno j' h
          · have : j' = j := by simpa using h
            rw [this]; exact hc
        show gName _ (V.int ((j : Nat) : Int)) _ _ _
        walk_at "jrd"
        refine r_dgetI k2 (valV_rows hr2) ?_
        walk_at "jrd"
        refine ite_nof (fun z => ?_) (fun z => ?_)
        · walk_at "jrd"
          refine r_dinS F5 ?_
          rw [valV_dmap_some]
          walk_at "jrd"
          refine r_dinS F5 ?_
          rw [valV_dmap_some]
          walk_at "jrd"
          have hz : j ≠ k := fun q => z (by rw [q])
          refine ite_nof (fun hc => ?_) (fun hc => ?_)
          · walk_at "jrd"
            refine (q _ e05).1 j hjm ⟨hz, fun hcr => hc ?_⟩ fun i2 hi2 hlt => hno i2 ?_
            · rw [er2, ← reach, ← reach] at hcr
              rw [decide_eq_decide]; exact hcr
            · obtain ⟨m2, hm2, rfl⟩ := List.mem_iff_getElem.mp hi2
              obtain ⟨hil, hjv⟩ := List.getElem?_eq_some_iff.mp hj
              have hmi : m2 < i := by
                by_cases h : m2 < i
                · exact h
                · have : D.nums[i] ≤ D.nums[m2] := by
                    rcases Nat.lt_or_ge i m2 with h1 | h1
                    · exact Nat.le_of_lt (List.pairwise_iff_getElem.mp S.ok.rise i m2 hil hm2 h1)
                    · have : m2 = i := by omega
                      subst this; exact Nat.le_refl _
                  omega
              exact List.mem_iff_getElem.mpr ⟨m2, by rw [List.length_take]; omega, List.getElem_take⟩
          · refine w_next ⟨rfl, ⟨_, _, rfl⟩, more fun hcr => ?_⟩
            have h6 := hcr.2
            unfold Cross at h6
            rw [er2, ← reach, ← reach] at h6
            exact h6 (by rw [decide_eq_decide] at hc; exact hc)
        · refine ite_F rfl (w_next ⟨rfl, ⟨_, _, rfl⟩, more fun hcr => hcr.1 (by omega)⟩)
      · rintro σ H6 ⟨rfl, ⟨v7, v8, rfl⟩, hno⟩
        have el2 : ((D.nums.map fun k : Nat => (k : Int)).map V.int).length = D.nums.length := by simp
        rw [el2, List.take_length] at hno
        walk_at "jrd"
        exact (q _ e05).2 hno
end
section
variable {P : Program} {w : World} {K : PySem.W.Frag} {mg : Str → Option Value} {base : Heap}
def SD.less (D : SD) (k : Nat) : SD := ⟨D.names, D.rows.filter fun r => r.1 ≠ k, D.coming⟩
theorem SD.Ok.less {D : SD} (ok : D.Ok) (k : Nat) : (D.less k).Ok :=
  ⟨ok.nd, ok.few, ok.srt, List.Pairwise.sublist (List.filter_sublist.map _) ok.rise, fun r hr => ok.lt r (List.mem_filter.mp hr).1, fun r hr => ok.inn r (List.mem_filter.mp hr).1, ok.co⟩
theorem SD.less_nums (D : SD) (k j : Nat) : j ∈ (D.less k).nums ↔ j ∈ D.nums ∧ j ≠ k := by
  unfold SD.nums SD.less
  simp only [List.mem_map, List.mem_filter]
  constructor
  · rintro ⟨r, ⟨h1, h2⟩, rfl⟩; exact ⟨⟨r, h1, rfl⟩, by simpa using h2⟩
  · rintro ⟨⟨r, h1, rfl⟩, h2⟩; exact ⟨r, ⟨h1, by simpa using h2⟩, rfl⟩
theorem SD.Ok.less_hd {D : SD} (ok : D.Ok) (k j : Nat) : j ∈ (D.less k).held ↔ Hd (edR D.rows) (fun n => n ∈ D.nums ∧ n ≠ k) j := by
  have okl := ok.less k
  have h0 := labs_hd (ed := edR D.rows) (tri (D.less k).rows) (fun r hr => by
    obtain ⟨q, hq, rfl⟩ := List.mem_map.mp hr
    exact ed_tri ok.nodup _ (List.mem_map.mpr ⟨q, (List.mem_filter.mp hq).1, rfl⟩)) (by rw [tri_fst]; exact okl.rise) j
  rw [tri_fst] at h0
  have e : (fun n => n ∈ (D.less k).rows.map (·.1)) = fun n => n ∈ D.nums ∧ n ≠ k := by
    funext n; exact propext (D.less_nums k n)
  rw [e] at h0
  exact h0
theorem SD.Ok.heldPw {D : SD} (ok : D.Ok) : D.held.Pairwise (· < ·) := ok.rise.sublist D.held_sub
theorem perm_nat {a b : List Nat} (ha : a.Nodup) (hb : b.Nodup) (h : ∀ x, x ∈ a ↔ x ∈ b) : a.Perm b := (List.perm_ext_iff_of_nodup ha hb).mpr h
theorem SD.Ok.spare {D : SD} (ok : D.Ok) {k : Nat} (hk : ¬ k ∈ D.held) : (D.held.filter fun j => j ≠ k).Perm (D.less k).held := by
  have e : (D.held.filter fun j => j ≠ k) = D.held := List.filter_eq_self.mpr fun j hj => by
    simp only [decide_eq_true_eq]
    exact fun z => hk (z ▸ hj)
  rw [e]
  refine perm_nat (ok.heldPw.imp fun h => Nat.ne_of_lt h) ((ok.less k).heldPw.imp fun h => Nat.ne_of_lt h) fun j => ?_
  rw [ok.less_hd, JM.spare (fun z => hk ((ok.hd k).mpr z)), ok.hd]
theorem SD.Ok.parted {D : SD} (ok : D.Ok) {k : Nat} (hk : k ∈ D.held) (hno : ∀ j ∈ D.nums, ¬ CrP D k j) : (D.held.filter fun j => j ≠ k).Perm (D.less k).held := by
  refine perm_nat ((ok.heldPw.imp fun h => Nat.ne_of_lt h).filter _) ((ok.less k).heldPw.imp fun h => Nat.ne_of_lt h) fun j => ?_
  rw [ok.less_hd, taken ((ok.hd k).mp hk), List.mem_filter, ok.hd]
  constructor
  · rintro ⟨h1, h2⟩; exact .inl ⟨h1, by simpa using h2⟩
  · rintro (⟨h1, h2⟩ | ⟨h1, h2, h3, _⟩)
    · exact ⟨h1, by simpa using h2⟩
    · exact absurd ⟨h2, h3⟩ (hno j h1)
theorem SD.Ok.got {D : SD} (ok : D.Ok) {k j : Nat} (hk : k ∈ D.held) (hj : j ∈ D.nums) (hc : CrP D k j) (hl : ∀ i ∈ D.nums, i < j → ¬ CrP D k i) : ((D.held.filter fun j => j ≠ k) ++ [j]).Perm (D.less k).held := by
  have hnj : ¬ j ∈ D.held := fun z => by
    have h1 := (ok.hd k).mp hk
    have h2 := (ok.hd j).mp z
    have h3 := hc.2
    unfold Cross at h3
    apply h3
    have e : Cn (edR D.rows) (Wo (edR D.rows) (fun n => n ∈ D.nums) k) (edR D.rows j).1 (edR D.rows j).2 := Cn.edge ⟨h2, hc.1⟩
    exact ⟨fun a => a.trans e, fun a => a.trans e.symm⟩
  refine perm_nat (List.nodup_append.mpr ⟨(ok.heldPw.imp fun h => Nat.ne_of_lt h).filter _, by simp, fun a ha b hb z => hnj ?_⟩) ((ok.less k).heldPw.imp fun h => Nat.ne_of_lt h) fun i => ?_
  · have : b = j := by simpa using hb
    rw [← this, ← z]; exact (List.mem_filter.mp ha).1
  · rw [ok.less_hd, taken ((ok.hd k).mp hk), List.mem_append, List.mem_filter, ok.hd, List.mem_singleton]
    constructor
    · rintro (⟨h1, h2⟩ | rfl)
      · exact .inl ⟨h1, by simpa using h2⟩
      · exact .inr ⟨hj, hc.1, hc.2, fun m h1 h2 h3 h4 => hl m h1 h3 ⟨h2, h4⟩⟩
    · rintro (⟨h1, h2⟩ | ⟨h1, h2, h3, h4⟩)
      · exact .inl ⟨h1, by simpa using h2⟩
      · refine .inr ?_
        rcases Nat.lt_trichotomy i j with h | h | h
        · exact absurd ⟨h2, h3⟩ (hl i h1 h)
        · exact h
        · exact absurd hc.2 (h4 j hj hc.1 h)
theorem intsN_map (l : List Nat) : intsN l = (l.map fun k : Nat => (k : Int)).map V.int := by unfold intsN; rw [List.map_map]; rfl
theorem dropK_rows (rows : List Row) (ra : Nat → Addr) (k : Nat) : dropK (rows.map fun r => ((Sum.inl (r.1 : Int) : Key), V.ref (ra r.1))) (Sum.inl (k : Int)) = (rows.filter fun r => r.1 ≠ k).map fun r => ((Sum.inl (r.1 : Int) : Key), V.ref (ra r.1)) := by
  unfold dropK
  rw [List.filter_map]
  congr 1
  refine List.filter_congr fun r _ => ?_
  simp
  constructor <;> intro h <;> omega
def sp_wo_join (K : PySem.W.Frag) : Sp := fun vs H Q _ => ∃ (x : Addr) (k : Nat) (D : SD) (G : Hp), vs = [.ref x, .int (k : Nat)] ∧ Same G H ∧ StAt K G x D ∧ k ∈ D.nums ∧
  ∀ (a : Addr) (H' G' : Hp), Same H H' → GrowG G H G' H' → StAt K G' a (D.less k) → Q (.ref a) H'
abbrev N_Standing_without_joining : List Str := ["self", "number", "rows", "held", "one", "other"]
theorem sc_Standing_without_joining : FnScope N_Standing_without_joining ["self", "number"] (defScope s_Standing_without_joining) := ⟨rfl, rfl, rfl, by decide +kernel, rfl, by decide +kernel, by decide +kernel⟩
theorem ok_Standing_without_joining (T : Txt w K mg) : OkF P w K mg base 3 (mA K "Standing" "without_joining") ["self", "number"] (sp_wo_join K) := by
  obtain ⟨fd_Standing_crossing, c_Standing_crossing⟩ := ok_Standing_crossing (P := P) (base := base) T
  obtain ⟨fd_Standing_init, c_Standing_init⟩ := ok_Standing_init (P := P) (base := base) T
  have cl_Standing := Tc_Standing T
  have na_Standing_coming := Tn_Standing_coming T
  have na_Standing_held := Tn_Standing_held T
  have na_Standing_own_names := Tn_Standing_own_names T
  have na_Standing_rows := Tn_Standing_rows T
  refine okF (Td_Standing_without_joining T) sc_Standing_without_joining (fun _ _ _ _ _ _ us hl => match us, hl with | [_, _], _ => rfl) (fun vs H Q E h => ?_) (fun cdv A outer s H vs Q E hr h => have hu := hu_of hr; ⟨_, (pss_cons (ps_set (i := 2) sc_Standing_without_joining.nd rfl (by first | exact Or.inl rfl | exact Or.inr rfl) (pe_callTy call_dictDJ (by rfl) (Tf_dict T) (by decide +kernel) (pa_cons (pe_fldK K (pv 0) rfl) pa_nil)))
      (pss_cons (ps_expr (pe_dpop1 (pv 2) (pv 1) ⟨rfl, rfl, rfl, rfl⟩))
      (pss_cons (ps_setLc (i := 3) (own := [("one", 4)]) rfl sc_Standing_without_joining.nd rfl rfl (sw_true rfl rfl rfl (by decide +kernel)) (pi_list (pe_fldK K (pv 0) rfl)) (blkOk_by (N := N_Standing_without_joining) (sc := defScope s_Standing_without_joining) (by decide +kernel)) (fun _ _ _ _ _ => (pg_name (i := 4) sc_Standing_without_joining.nd rfl (by first | exact Or.inl rfl | exact Or.inr rfl))) (fun _ _ _ _ _ => (pts_one (pt_cmpR op_ne (pv 4) (pv 1) (nomark _)))) (fun _ _ _ _ _ => (pv 4)))
      (pss_cons (ps_if (pt_cmpR (op_inK K) (pv 1) (pe_fldK K (pv 0) rfl) (by rfl)) (pss_cons (ps_set (i := 5) sc_Standing_without_joining.nd rfl (by first | exact Or.inl rfl | exact Or.inr rfl) (pe_meth (pv 0) (Tc_Standing T) (Tm_Standing_crossing T) c_Standing_crossing.1 (hr.mono (by decide)) c_Standing_crossing.2.1 .nil pass0 (pa_cons (pv 1) pa_nil)))
      (pss_one (ps_if (pt_cmp (pc_notN (pv 5))) (pss_one (ps_expr (pe_bm PySem.F.plainAttrs_list PySem.F.slot_list_append PySem.F.type_list_append mt_append (pv 3) (pa_cons (pv 5) pa_nil)))) pss_nil))) pss_nil)
      (pss_one (ps_ret (pe_make (Tk_Standing T) c_Standing_init.1 (hr.mono (by decide)) rfl (Tg_Standing T) c_Standing_init.2.1 .nil pass0 (pa_cons (pe_fldK K (pv 0) rfl) (pa_cons (pv 2) (pa_cons (pe_callB cr_sortedI (by rfl) (Tf_sorted T) (by decide +kernel) (pa_cons (pv 3) pa_nil)) (pa_cons (pe_fldK K (pv 0) rfl) pa_nil))))))))))), ?_⟩)
  · obtain ⟨x, k, D, G, rfl, _⟩ := h
    rfl
  · obtain ⟨x, k, D, G, rfl, eG, S, hk, q⟩ := h
    obtain ⟨dx, on, ro, he, ne, fs, I, h1, ⟨ra, h21, h22⟩, h3, h4⟩ := S.st.ins
    have i1 := eG _ _ I.h; have i2 := I.on; have i3 := I.ro; have i4 := I.he; have i5 := I.co; have i6 := I.nm
    have j2 := eG _ _ h21
    have j3 := eG _ _ h3
    have ok := S.ok
    have okL := ok.less k
    have hlh := ok.heldLen
    obtain ⟨r, hr⟩ := row_some hk
    walk_at "jrd"
    refine j_popdI hp (valV_rows hr) fun H2 f2 h2 => ?_
    rw [dropK_rows] at h2
    have nhp : he ≠ p := ne_of_none j3 hn
    have nxp : x ≠ p := ne_of_none i1 hn
    have s2 : Same H H2 := Same.mut he_1 hn f2
    have k1 := s2 _ _ i1
    have k3 := s2 _ _ j3
    clear i1 j3 j2 he_1 hp f2
    walk_at "jrd"
    refine lc_M [] walk_list (fun H' f => SqL.of (frM_nil f _ _ k3)) (by unfold intsN; simp; omega) (by simp) (fun i acc H' => acc = intsN ((D.held.take i).filter fun j => j ≠ k)) rfl (fun i acc H1 H2 p t m => p) ?_ ?_
    · rintro i y acc H3 H3' KY KN hi rfl f3 ⟨rfl, hy⟩ hacc hY hN
      unfold intsN at hy
      rw [List.getElem?_map, Option.map_eq_some_iff] at hy
      obtain ⟨j, hj, rfl⟩ := hy
      rw [take_more hj, List.filter_append] at hY hN
      unfold intsN at hY hN
      rw [List.map_append] at hY hN
      walk_at "jrd"
      refine ⟨rfl, ?_⟩
      walk_at "jrd"
      refine ite_nof (fun z => ?_) (fun z => ?_)
      · walk_at "jrd"
        have z' : j ≠ k := fun q => z (by rw [q])
        refine hY _ _ (FrM.refl _ _) ?_
        rw [List.filter_cons_of_pos (by simpa using z')]; rfl
      · have z' : j = k := by omega
        refine hN _ (FrM.refl _ _) ?_
        rw [List.filter_cons_of_neg (by simpa using z'), List.filter_nil, List.map_nil, List.append_nil]
    · rintro acc hl H3 hD f hp3 rfl _
      have eln : (intsN D.held).length = D.held.length := by unfold intsN; simp
      rw [eln, List.take_length] at hp3
      have e3 := frM_nil f
      clear f
      have nhl : H hl = none := s2.free hD
      have s3 := s2.trans e3
      have m1 := e3 _ _ k1
      have m2 := e3 _ _ h2
      have m3 := e3 _ _ k3
      have npl : p ≠ hl := ne_of_none h2 hD
      clear k1 k3 e3 hD
      refine w_gname ?_
      refine w_seqK (fun σ H5 => (∃ v4 v5, σ = [some (.ref x), some (.int (k : Nat)), some (.ref p), some (.ref hl), v4, v5]) ∧ Same H H5 ∧ H5 p = some (.dK ((D.rows.filter fun r => r.1 ≠ k).map fun r => ((Sum.inl (r.1 : Int) : Key), V.ref (ra r.1)))) ∧ ∃ l, H5 hl = some (.lst (intsN l)) ∧ l.Perm (D.less k).held) ?_ ?_
      · rintro σ H5 ⟨⟨v4, v5, rfl⟩, s5, g1, l, g2, hperm⟩
        have n1 := s5 _ _ (eG _ _ I.h)
        rw [intsN_map] at g2
        walk_at "jrd"
        have eys := ints_uniq (hy.trans (hperm.map _)) hs okL.heldPw
        rw [eys, ← intsN_map] at hp
        have s6 := s5.trans he_1
        refine r_makeStd (names := D.names) (rows := (D.less k).rows) (hd := (D.less k).held) eG s6 (gh_sub eG _ _ h1) ⟨ra, ?_, fun w hw => gh_sub eG _ _ (h22 w (List.mem_filter.mp hw).1)⟩ (by rw [gh_new (s5.free hn_1)]; exact hp) ok.nd (by have := ok.few; omega) (by have := okL.heldLen; omega) okL.heldRow fun a H' G' s g S' _ => q a H' G' s g ⟨S', okL⟩
        rw [gh_new hn]; exact he_1 _ _ g1
      · intro key
        have S3 : StAt K H3 x D := S.same (eG.trans s3)
        walk_at "jrd"
        refine r_inL m3 rfl (fl_ints _) ?_
        rw [inV_ints]
        walk_at "jrd"
        refine ite_of (fun hin => ?_) (fun hout => ?_)
        · walk_at "jrd"
          refine ⟨x, k, D, rfl, S3, hin, fun H4 e4 => ⟨fun j hj hc hl2 => ?_, fun hno => ?_⟩⟩
          · walk_at "jrd"
            refine ite_T (by simp) ?_
            have h34 := e4 _ _ hp3
            walk_at "jrd"
            refine r_append h34 (szlt _ ?_) fun H5 f5 h5 => ?_
            · unfold intsN; rw [List.length_map]
              have := List.length_filter_le (fun j => decide (j ≠ k)) D.held
              omega
            walk_at "jrd"
            refine key _ _ ⟨⟨_, _, rfl⟩, Same.mut (s3.trans e4) nhl f5, f5 _ _ (e4 _ _ m2) npl, _, ?_, ok.got hin hj hc hl2⟩
            rw [h5]; unfold intsN; rw [List.map_append]; rfl
          · walk_at "jrd"
            refine ite_F (by simp) ?_
            walk_at "jrd"
            exact key _ _ ⟨⟨_, _, rfl⟩, s3.trans e4, e4 _ _ m2, _, e4 _ _ hp3, ok.parted hin hno⟩
        · walk_at "jrd"
          exact key _ _ ⟨⟨_, _, rfl⟩, s3, m2, _, hp3, ok.spare hout⟩
end
section
variable {P : Program} {w : World} {K : PySem.W.Frag} {mg : Str → Option Value} {base : Heap}
def SD.lessL (D : SD) (l : List Nat) : SD := ⟨D.names, D.rows.filter fun r => ¬ r.1 ∈ l, D.coming⟩
theorem SD.lessL_snoc (D : SD) (l : List Nat) (k : Nat) : D.lessL (l ++ [k]) = (D.lessL l).less k := by
  unfold SD.lessL SD.less
  congr 1
  show _ = (D.rows.filter fun r => ¬ r.1 ∈ l).filter fun r => r.1 ≠ k
  rw [List.filter_filter]
  refine List.filter_congr fun r _ => ?_
  simp [and_comm]
theorem SD.lessL_nil (D : SD) : D.lessL [] = D := by
  have e : (D.rows.filter fun r => ¬ r.1 ∈ ([] : List Nat)) = D.rows := List.filter_eq_self.mpr (by simp)
  unfold SD.lessL
  rw [e]
def SD.at (D : SD) (n : Str) : List Nat := (D.rows.filter fun r => r.2.1 = n ∨ r.2.2.1 = n).map (·.1)
def SD.drop (D : SD) (n : Str) : SD := ⟨D.names.filter fun m => m ≠ n, D.rows.filter fun r => ¬ (r.2.1 = n ∨ r.2.2.1 = n), D.coming⟩
theorem SD.Ok.lessAt {D : SD} (ok : D.Ok) (n : Str) : (D.lessL (D.at n)).rows = (D.drop n).rows := by
  show D.rows.filter _ = D.rows.filter _
  refine List.filter_congr fun r hr => ?_
  rw [decide_eq_decide]
  refine not_congr ?_
  unfold SD.at
  rw [List.mem_map]
  constructor
  · rintro ⟨q, hq, e⟩
    obtain ⟨h1, h2⟩ := List.mem_filter.mp hq
    have a := rowOf_of ok.nodup (k := q.1) (r := q.2) h1
    have b := rowOf_of ok.nodup (k := r.1) (r := r.2) hr
    rw [e, b] at a
    have e2 : r.2 = q.2 := Option.some.inj a
    rw [e2]; simpa using h2
  · intro h
    exact ⟨r, List.mem_filter.mpr ⟨hr, by simpa using h⟩, rfl⟩
theorem SD.Ok.drop {D : SD} (ok : D.Ok) (n : Str) : (D.drop n).Ok := by
  refine ⟨ok.nd.filter _, Nat.lt_of_le_of_lt (List.length_filter_le _ _) ok.few, sorted_filter ok.srt _, List.Pairwise.sublist (List.filter_sublist.map _) ok.rise, fun r hr => ok.lt r (List.mem_filter.mp hr).1, fun r hr => ?_, ok.co⟩
  obtain ⟨h1, h2⟩ := List.mem_filter.mp hr
  have h3 := ok.inn r h1
  have h4 : ¬ (r.2.1 = n ∨ r.2.2.1 = n) := by simpa using h2
  exact ⟨List.mem_filter.mpr ⟨h3.1, by simpa using fun z => h4 (.inl z)⟩, List.mem_filter.mpr ⟨h3.2, by simpa using fun z => h4 (.inr z)⟩⟩
def sp_wo_name (K : PySem.W.Frag) : Sp := fun vs H Q _ => ∃ (x : Addr) (n : Str) (D : SD) (G : Hp), vs = [.ref x, .str n] ∧ Same G H ∧ StAt K G x D ∧
  ∀ (a : Addr) (H' G' : Hp), Same H H' → GrowG G H G' H' → StAt K G' a (D.drop n) → Q (.ref a) H'
abbrev N_Standing_without_name : List Str := ["self", "name", "left", "number", "names", "one"]
theorem sc_Standing_without_name : FnScope N_Standing_without_name ["self", "name"] (defScope s_Standing_without_name) := ⟨rfl, rfl, rfl, by decide +kernel, rfl, by decide +kernel, by decide +kernel⟩
theorem ok_Standing_without_name (T : Txt w K mg) : OkF P w K mg base 4 (mA K "Standing" "without_name") ["self", "name"] (sp_wo_name K) := by
  obtain ⟨fd_Standing_numbers_at, c_Standing_numbers_at⟩ := ok_Standing_numbers_at (P := P) (base := base) T
  obtain ⟨fd_Standing_without_joining, c_Standing_without_joining⟩ := ok_Standing_without_joining (P := P) (base := base) T
  obtain ⟨fd_Standing_init, c_Standing_init⟩ := ok_Standing_init (P := P) (base := base) T
  have cl_Standing := Tc_Standing T
  have na_Standing_coming := Tn_Standing_coming T
  have na_Standing_held := Tn_Standing_held T
  have na_Standing_own_names := Tn_Standing_own_names T
  have na_Standing_rows := Tn_Standing_rows T
  refine okF (Td_Standing_without_name T) sc_Standing_without_name (fun _ _ _ _ _ _ us hl => match us, hl with | [_, _], _ => rfl) (fun vs H Q E h => ?_) (fun cdv A outer s H vs Q E hr h => have hu := hu_of hr; ⟨_, (pss_cons (ps_set (i := 2) sc_Standing_without_name.nd rfl (by first | exact Or.inl rfl | exact Or.inr rfl) (pv 0))
      (pss_cons (ps_for PassesOwn.never rfl (pi_list (pe_meth (pv 0) (Tc_Standing T) (Tm_Standing_numbers_at T) c_Standing_numbers_at.1 (hr.mono (by decide)) c_Standing_numbers_at.2.1 .nil pass0 (pa_cons (pv 1) pa_nil))) (pg_name (i := 3) sc_Standing_without_name.nd rfl (by first | exact Or.inl rfl | exact Or.inr rfl))
      (pss_one (ps_set (i := 2) sc_Standing_without_name.nd rfl (by first | exact Or.inl rfl | exact Or.inr rfl) (pe_meth (pv 2) (Tc_Standing T) (Tm_Standing_without_joining T) c_Standing_without_joining.1 (hr.mono (by decide)) c_Standing_without_joining.2.1 .nil pass0 (pa_cons (pv 3) pa_nil)))))
      (pss_cons (ps_setLc (i := 4) (own := [("one", 5)]) rfl sc_Standing_without_name.nd rfl rfl (sw_true rfl rfl rfl (by decide +kernel)) (pi_list (pe_fldK K (pv 2) rfl)) (blkOk_by (N := N_Standing_without_name) (sc := defScope s_Standing_without_name) (by decide +kernel)) (fun _ _ _ _ _ => (pg_name (i := 5) sc_Standing_without_name.nd rfl (by first | exact Or.inl rfl | exact Or.inr rfl))) (fun _ _ _ _ _ => (pts_one (pt_cmpR op_ne (pv 5) (pv 1) (nomark _)))) (fun _ _ _ _ _ => (pv 5)))
      (pss_one (ps_ret (pe_make (Tk_Standing T) c_Standing_init.1 (hr.mono (by decide)) rfl (Tg_Standing T) c_Standing_init.2.1 .nil pass0 (pa_cons (pv 4) (pa_cons (pe_callTy call_dictDJ (by rfl) (Tf_dict T) (by decide +kernel) (pa_cons (pe_fldK K (pv 2) rfl) pa_nil)) (pa_cons (pe_callTy (call_listJ K) (by rfl) (Tf_list T) (by decide +kernel) (pa_cons (pe_fldK K (pv 2) rfl) pa_nil)) (pa_cons (pe_fldK K (pv 2) rfl) pa_nil)))))))))), ?_⟩)
  · obtain ⟨x, n, D, G, rfl, _⟩ := h
    rfl
  · obtain ⟨x, n, D, G, rfl, eG, S, q⟩ := h
    have ok := S.ok
    have S0 := S.same eG
    obtain ⟨dx, fs, i1, i2⟩ := S0.insx
    walk_at "jrd"
    refine ⟨x, n, D, rfl, S0, fun p H1 hn1 e1 h1 => ?_⟩
    have hat : (D.rows.filter fun r => r.2.1 = n ∨ r.2.2.1 = n).map (·.1) = D.at n := rfl
    rw [hat] at h1
    clear i1 i2
    have natN : (D.at n).Nodup := (List.Pairwise.sublist (List.filter_sublist.map _) ok.rise).imp fun h => Nat.ne_of_lt h
    walk_at "jrd"
    refine loop_list (xs := intsN (D.at n)) (fun i σ H2 => ∃ (l : Addr) (G2 : Hp) (v3 v4 v5 : Option V), σ = [some (.ref x), some (.str n), some (.ref l), v3, v4, v5] ∧ Same H1 H2 ∧ GrowG G H G2 H2 ∧ StAt K G2 l (D.lessL ((D.at n).take i))) ⟨x, G, _, _, _, rfl, fun _ _ h => h, ⟨fun _ _ h => h, eG.trans e1, fun _ _ h => h⟩, by rw [List.take_zero, SD.lessL_nil]; exact S⟩ (fun i σ H2 _ ⟨_, _, _, _, _, _, e, _⟩ => e _ _ h1) ?_ ?_
    · rintro i y σ H2 hi ⟨l, G2, v3, v4, v5, rfl, s2, g2, S2⟩
      unfold intsN at hi
      rw [List.getElem?_map, Option.map_eq_some_iff] at hi
      obtain ⟨k, hk, rfl⟩ := hi
      obtain ⟨dx2, fs2, i1, i2⟩ := (S2.same g2.inn).insx
      have e12 := e1.trans s2
      have hin : k ∈ (D.lessL ((D.at n).take i)).nums := by
        have h1 := List.mem_of_getElem? hk
        obtain ⟨r, hr, e⟩ := List.mem_map.mp h1
        refine List.mem_map.mpr ⟨r, List.mem_filter.mpr ⟨(List.mem_filter.mp hr).1, ?_⟩, e⟩
        simp only [decide_eq_true_eq]
        rw [e]
        intro z
        obtain ⟨j', hj', hje⟩ := List.mem_iff_getElem.mp z
        rw [List.length_take] at hj'
        have h2 : (D.at n)[j']? = some k := by rw [← hje, List.getElem_take]; exact List.getElem?_eq_getElem _
        have h3 := (List.getElem?_inj (by omega) natN).mp (h2.trans hk.symm)
        omega
      walk_at "jrd"
      refine ⟨l, k, _, G2, rfl, g2.inn, S2, hin, fun a H3 G3 s3 g3 S3 => ?_⟩
      walk_at "jrd"
      refine ⟨a, G3, _, _, _, rfl, s2.trans s3, g2.trans e12 g3, ?_⟩
      rw [take_more hk, SD.lessL_snoc]; exact S3
    · rintro σ H2 ⟨l, G2, v3, v4, v5, rfl, s2, g2, S2⟩
      have ell : (intsN (D.at n)).length = (D.at n).length := by unfold intsN; simp
      rw [ell, List.take_length] at S2
      have okM := S2.ok
      have okD := ok.drop n
      have er := ok.lessAt n
      have eh : (D.lessL (D.at n)).held = (D.drop n).held := by unfold SD.held; rw [er]
      have e12 := e1.trans s2
      obtain ⟨dx2, on, ro, he, ne, fs2, I, h1', h2, h3, h4⟩ := S2.st.ins
      rw [er] at h2
      rw [eh] at h3
      obtain ⟨ra, h21, h22⟩ := h2
      have i1 := g2.inn _ _ I.h; have i2 := I.on; have i3 := I.ro; have i4 := I.he; have i5 := I.co
      have j1 := g2.inn _ _ h1'
      have j2 := g2.inn _ _ h21
      have j3 := g2.inn _ _ h3
      have fewN := ok.few
      clear e1 h1
      walk_at "jrd"
      refine lc_M [] walk_list (fun H' f => SqL.of (frM_nil f _ _ j1)) (by show (D.names.map V.str).length ≤ _; simp; omega) (by simp) (fun i acc H' => acc = ((D.names.take i).filter fun m => m ≠ n).map V.str) rfl (fun i acc H1 H2 p t m => p) ?_ ?_
      · rintro i y acc H3 H3' KY KN hi rfl f3 ⟨rfl, hy⟩ hacc hY hN
        have hy : (D.names.map V.str)[i]? = some y := hy
        rw [List.getElem?_map, Option.map_eq_some_iff] at hy
        obtain ⟨m, hm, rfl⟩ := hy
        rw [take_more hm, List.filter_append, List.map_append] at hY hN
        walk_at "jrd"
        refine ⟨rfl, ?_⟩
        walk_at "jrd"
        refine ite_nof (fun z => ?_) (fun z => ?_)
        · walk_at "jrd"
          refine hY _ _ (FrM.refl _ _) ?_
          rw [List.filter_cons_of_pos (by simpa using z)]; rfl
        · refine hN _ (FrM.refl _ _) ?_
          rw [List.filter_cons_of_neg (by simpa using z), List.filter_nil, List.map_nil, List.append_nil]
      · rintro acc D' H3 hD f hp3 rfl _
        have ed : ((D.lessL (D.at n)).names.map V.str).length = D.names.length := by show (D.names.map V.str).length = _; simp
        rw [ed, List.take_length] at hp3
        have e3 := frM_nil f
        clear f
        have k1 := e3 _ _ i1
        have k2 := e3 _ _ j2
        have k3 := e3 _ _ j3
        clear i1 j1 j2 j3
        walk_at "jrd"
        have s5 := (e3.trans he_1).trans he_2
        refine r_makeStd (names := (D.drop n).names) (rows := (D.drop n).rows) (hd := (D.drop n).held) g2.inn s5 (by rw [gh_new hD]; exact he_2 _ _ (he_1 _ _ hp3)) ⟨ra, by rw [gh_new (e3.free hn)]; exact he_2 _ _ hp, fun r hr => gh_sub g2.inn _ _ (h22 r hr)⟩ (by rw [gh_new ((e3.trans he_1).free hn_1)]; exact hp_1) okD.nd (by have := okD.few; omega) (by have := okD.heldLen; omega) okD.heldRow fun a H' G' s g S' _ => ?_
        exact q a H' G' (e12.trans s) (g2.trans e12 g) ⟨S', okD⟩
end
section
variable {P : Program} {w : World} {K : PySem.W.Frag} {mg : Str → Option Value} {base : Heap}
/-! ### a mesh -/
def meshKeys : List Str := ["turn", "past"]
structure MeshAt (K : PySem.W.Frag) (G H : Hp) (x pl : Addr) (turn : Int) (Ss : List SD) : Prop where
  sub : Same G H
  ins : ∃ dx fs, G x = some (.ins (gA K "Mesh") dx fs) ∧ NoM meshKeys fs ∧ lk fs "turn" (.int turn) ∧ lk fs "past" (.ref pl)
  past : ∃ as : List Addr, H pl = some (.lst (as.map V.ref)) ∧ as.length = Ss.length ∧ ∀ (i : Nat) (a : Addr) (D : SD), as[i]? = some a → Ss[i]? = some D → StAt K G a D
  gpl : G pl = none
  len : Ss.length ≤ 400
theorem MeshAt.same {K : PySem.W.Frag} {G H H' : Hp} {x pl : Addr} {turn : Int} {Ss : List SD} (M : MeshAt K G H x pl turn Ss) (e : Same H H') : MeshAt K G H' x pl turn Ss := by
  obtain ⟨as, h1, h2, h3⟩ := M.past
  exact ⟨M.sub.trans e, M.ins, ⟨as, e _ _ h1, h2, h3⟩, M.gpl, M.len⟩
theorem MeshAt.fr {K : PySem.W.Frag} {G H H' : Hp} {x pl m : Addr} {turn : Int} {Ss : List SD} (M : MeshAt K G H x pl turn Ss) (f : Fr1 m H H') (g : G m = none) (n : pl ≠ m) : MeshAt K G H' x pl turn Ss := by
  obtain ⟨as, h1, h2, h3⟩ := M.past
  exact ⟨Same.mut M.sub g f, M.ins, ⟨as, f _ _ h1 n, h2, h3⟩, M.gpl, M.len⟩
theorem MeshAt.last {K : PySem.W.Frag} {G H : Hp} {x pl : Addr} {turn : Int} {Ss : List SD} {D : SD} (M : MeshAt K G H x pl turn (Ss ++ [D])) : ∃ (as : List Addr) (a : Addr), H pl = some (.lst (as.map V.ref ++ [.ref a])) ∧ as.length = Ss.length ∧ StAt K G a D ∧ ∀ (i : Nat) (a : Addr) (D : SD), as[i]? = some a → Ss[i]? = some D → StAt K G a D := by
  obtain ⟨as, h1, h2, h3⟩ := M.past
  rcases nil_or_snoc as with rfl | ⟨as, a, rfl⟩
  · simp at h2
  · have hl : as.length = Ss.length := by simpa using h2
    refine ⟨as, a, by rw [h1, List.map_append]; rfl, hl, h3 as.length a D (by simp) (by rw [hl]; simp), fun i b E hb hE => h3 i b E ?_ ?_⟩
    · rw [List.getElem?_append_left (List.getElem?_eq_some_iff.mp hb).1]; exact hb
    · rw [List.getElem?_append_left (List.getElem?_eq_some_iff.mp hE).1]; exact hE
def sp_now (K : PySem.W.Frag) : Sp := fun vs H Q _ => ∃ (x pl : Addr) (turn : Int) (Ss : List SD) (D : SD) (G : Hp), vs = [.ref x] ∧ MeshAt K G H x pl turn (Ss ++ [D]) ∧ ∀ a, StAt K G a D → Q (.ref a) H
abbrev N_Mesh_now : List Str := ["self"]
theorem sc_Mesh_now : FnScope N_Mesh_now ["self"] (defScope s_Mesh_now) := ⟨rfl, rfl, rfl, by decide +kernel, rfl, by decide +kernel, by decide +kernel⟩
theorem ok_Mesh_now (T : Txt w K mg) : OkF P w K mg base 1 (mA K "Mesh" "now") ["self"] (sp_now K) := by
  have cl_Mesh := Tc_Mesh T
  have na_Mesh_past := Tn_Mesh_past T
  refine okF (Td_Mesh_now T) sc_Mesh_now (fun _ _ _ _ _ _ us hl => match us, hl with | [_], _ => rfl) (fun vs H Q E h => ?_) (fun cdv A outer s H vs Q E hr h => have hu := hu_of hr; ⟨_, (pss_one (ps_ret (pe_ix (ix_listK K) (pe_fldK K (pv 0) rfl) (pe_un un_neg pe_int) (fun _ _ => rfl)))), ?_⟩)
  · obtain ⟨x, pl, turn, Ss, D, G, rfl, _⟩ := h
    rfl
  · obtain ⟨x, pl, turn, Ss, D, G, rfl, M, q⟩ := h
    obtain ⟨dx, fs, i1, i2, i3, i4⟩ := M.ins
    obtain ⟨as, a, h1, _, S, _⟩ := M.last
    have j1 := M.sub _ _ i1
    walk_at "jrd"
    exact q a S
def sp_mlook (K : PySem.W.Frag) : Sp := fun vs H Q _ => ∃ (x pl l : Addr) (turn : Int) (Ss : List SD) (D : SD) (G : Hp) (some_ : List Str), vs = [.ref x, .ref l] ∧ MeshAt K G H x pl turn (Ss ++ [D]) ∧ H l = some (.lst (some_.map V.str)) ∧ (∀ n ∈ some_, n ∈ D.names) ∧ Q .non H
abbrev N_Mesh_look_names : List Str := ["self", "names", "name"]
theorem sc_Mesh_look_names : FnScope N_Mesh_look_names ["self", "names"] (defScope s_Mesh_look_names) := ⟨rfl, rfl, rfl, by decide +kernel, rfl, by decide +kernel, by decide +kernel⟩
theorem ok_Mesh_look_names (T : Txt w K mg) : OkF P w K mg base 2 (mA K "Mesh" "look_names") ["self", "names"] (sp_mlook K) := by
  obtain ⟨fd_Standing_has_name, c_Standing_has_name⟩ := ok_Standing_has_name (P := P) (base := base) T
  obtain ⟨fd_Mesh_now, c_Mesh_now⟩ := ok_Mesh_now (P := P) (base := base) T
  have cl_Mesh := Tc_Mesh T
  have cl_Standing := Tc_Standing T
  refine okF (Td_Mesh_look_names T) sc_Mesh_look_names (fun _ _ _ _ _ _ us hl => match us, hl with | [_, _], _ => rfl) (fun vs H Q E h => ?_) (fun cdv A outer s H vs Q E hr h => have hu := hu_of hr; ⟨_, (pss_one (ps_for PassesOwn.never rfl (pi_list (pv 1)) (pg_name (i := 2) sc_Mesh_look_names.nd rfl (by first | exact Or.inl rfl | exact Or.inr rfl))
      (pss_one (ps_if (pt_not (pt_val (pe_meth (pe_meth0 (pv 0) (Tc_Mesh T) (Tm_Mesh_now T) c_Mesh_now.1 (hr.mono (by decide)) c_Mesh_now.2.1 .nil pass0) (Tc_Standing T) (Tm_Standing_has_name T) c_Standing_has_name.1 (hr.mono (by decide)) c_Standing_has_name.2.1 .nil pass0 (pa_cons (pv 2) pa_nil)))) (pss_one ps_never) pss_nil)))), ?_⟩)
  · obtain ⟨x, pl, l, turn, Ss, D, G, some_, rfl, _⟩ := h
    rfl
  · obtain ⟨x, pl, l, turn, Ss, D, G, some_, rfl, M, hl, hin, q⟩ := h
    obtain ⟨dx, fs, i1, i2, i3, i4⟩ := M.ins
    have j1 := M.sub _ _ i1
    walk_at "jrd"
    refine loop_list (xs := some_.map V.str) (fun i σ H' => H' = H ∧ ∃ v, σ = [some (.ref x), some (.ref l), v]) ⟨rfl, _, rfl⟩ (fun i σ H' _ p => p.1 ▸ hl) ?_ ?_
    · rintro i y σ H' hi ⟨rfl, v, rfl⟩
      rw [List.getElem?_map, Option.map_eq_some_iff] at hi
      obtain ⟨n, hn, rfl⟩ := hi
      have hnD := hin n (List.mem_of_getElem? hn)
      walk_at "jrd"
      refine ⟨x, pl, turn, Ss, D, G, rfl, M, fun a S => ?_⟩
      have S' := S.same M.sub
      obtain ⟨dx2, fs2, k1, k2⟩ := S'.insx
      walk_at "jrd"
      refine ⟨a, n, D, rfl, S', ?_⟩
      rw [decide_eq_true hnD]
      walk_at "jrd"
      refine ite_F rfl ?_
      walk_at "jrd"
      exact ⟨rfl, _, rfl⟩
    · rintro σ H' ⟨rfl, v, rfl⟩
      exact q
abbrev N_Mesh_look_moment : List Str := ["self", "moment"]
theorem sc_Mesh_look_moment : FnScope N_Mesh_look_moment ["self", "moment"] (defScope s_Mesh_look_moment) := ⟨rfl, rfl, rfl, by decide +kernel, rfl, by decide +kernel, by decide +kernel⟩
theorem ok_Mesh_look_moment (T : Txt w K mg) : OkF P w K mg base 1 (mA K "Mesh" "look_moment") ["self", "moment"] (fun vs H Q _ => ∃ (x pl : Addr) (m : Nat) (turn : Int) (Ss : List SD) (G : Hp), vs = [.ref x, .int (m : Nat)] ∧ MeshAt K G H x pl turn Ss ∧ m < Ss.length ∧ Q .non H) := by
  have cl_Mesh := Tc_Mesh T
  have na_Mesh_past := Tn_Mesh_past T
  refine okF (Td_Mesh_look_moment T) sc_Mesh_look_moment (fun _ _ _ _ _ _ us hl => match us, hl with | [_, _], _ => rfl) (fun vs H Q E h => ?_) (fun cdv A outer s H vs Q E hr h => have hu := hu_of hr; ⟨_, (pss_one (ps_if (pt_not (pt_chain op_le op_lt pe_int (pv 1) (pe_callB (call_lenJ K) (by rfl) (Tf_len T) (by decide +kernel) (pa_cons (pe_fldK K (pv 0) rfl) pa_nil)))) (pss_one ps_never) pss_nil)), ?_⟩)
  · obtain ⟨x, pl, m, turn, Ss, G, rfl, _⟩ := h
    rfl
  · obtain ⟨x, pl, m, turn, Ss, G, rfl, M, hm, q⟩ := h
    obtain ⟨dx, fs, i1, i2, i3, i4⟩ := M.ins
    obtain ⟨as, h1, h2, _⟩ := M.past
    have j1 := M.sub _ _ i1
    walk_at "jrd"
    refine ite_T (decide_eq_true (by omega)) ?_
    walk_at "jrd"
    have e : decide ((m : Int) < ((as.map V.ref).length : Nat)) = true := decide_eq_true (by rw [List.length_map]; omega)
    rw [e]
    walk_at "jrd"
    refine ite_F rfl ?_
    walk_at "jrd"
    exact q
abbrev N_Mesh_moment : List Str := ["self"]
theorem sc_Mesh_moment : FnScope N_Mesh_moment ["self"] (defScope s_Mesh_moment) := ⟨rfl, rfl, rfl, by decide +kernel, rfl, by decide +kernel, by decide +kernel⟩
theorem ok_Mesh_moment (T : Txt w K mg) : OkF P w K mg base 1 (mA K "Mesh" "moment") ["self"] (fun vs H Q _ => ∃ (x pl : Addr) (turn : Int) (Ss : List SD) (G : Hp), vs = [.ref x] ∧ MeshAt K G H x pl turn Ss ∧ Q (.int ((Ss.length : Nat) - 1)) H) := by
  have cl_Mesh := Tc_Mesh T
  have na_Mesh_past := Tn_Mesh_past T
  refine okF (Td_Mesh_moment T) sc_Mesh_moment (fun _ _ _ _ _ _ us hl => match us, hl with | [_], _ => rfl) (fun vs H Q E h => ?_) (fun cdv A outer s H vs Q E hr h => have hu := hu_of hr; ⟨_, (pss_one (ps_ret (pe_op op_sub (pe_callB (call_lenJ K) (by rfl) (Tf_len T) (by decide +kernel) (pa_cons (pe_fldK K (pv 0) rfl) pa_nil)) pe_int))), ?_⟩)
  · obtain ⟨x, pl, turn, Ss, G, rfl, _⟩ := h
    rfl
  · obtain ⟨x, pl, turn, Ss, G, rfl, M, q⟩ := h
    obtain ⟨dx, fs, i1, i2, i3, i4⟩ := M.ins
    obtain ⟨as, h1, h2, _⟩ := M.past
    have j1 := M.sub _ _ i1
    walk_at "jrd"
    rw [List.length_map, h2]
    exact q
abbrev N_Mesh_names_now : List Str := ["self"]
theorem sc_Mesh_names_now : FnScope N_Mesh_names_now ["self"] (defScope s_Mesh_names_now) := ⟨rfl, rfl, rfl, by decide +kernel, rfl, by decide +kernel, by decide +kernel⟩
theorem ok_Mesh_names_now (T : Txt w K mg) : OkF P w K mg base 2 (mA K "Mesh" "names_now") ["self"] (fun vs H Q _ => ∃ (x pl : Addr) (turn : Int) (Ss : List SD) (D : SD) (G : Hp), vs = [.ref x] ∧ MeshAt K G H x pl turn (Ss ++ [D]) ∧ ∀ p H', H p = none → Same H H' → H' p = some (.lst (D.names.map V.str)) → Q (.ref p) H') := by
  obtain ⟨fd_Mesh_now, c_Mesh_now⟩ := ok_Mesh_now (P := P) (base := base) T
  have cl_Mesh := Tc_Mesh T
  have cl_Standing := Tc_Standing T
  have na_Standing_own_names := Tn_Standing_own_names T
  refine okF (Td_Mesh_names_now T) sc_Mesh_names_now (fun _ _ _ _ _ _ us hl => match us, hl with | [_], _ => rfl) (fun vs H Q E h => ?_) (fun cdv A outer s H vs Q E hr h => have hu := hu_of hr; ⟨_, (pss_one (ps_ret (pe_callTy (call_listJ K) (by rfl) (Tf_list T) (by decide +kernel) (pa_cons (pe_fldK K (pe_meth0 (pv 0) (Tc_Mesh T) (Tm_Mesh_now T) c_Mesh_now.1 (hr.mono (by decide)) c_Mesh_now.2.1 .nil pass0) rfl) pa_nil)))), ?_⟩)
  · obtain ⟨x, pl, turn, Ss, D, G, rfl, _⟩ := h
    rfl
  · obtain ⟨x, pl, turn, Ss, D, G, rfl, M, q⟩ := h
    obtain ⟨dx, fs, i1, i2, i3, i4⟩ := M.ins
    have j1 := M.sub _ _ i1
    walk_at "jrd"
    refine ⟨x, pl, turn, Ss, D, G, rfl, M, fun a S => ?_⟩
    obtain ⟨dx2, on, ro, he, ne, fs2, I, h1, _⟩ := (S.same M.sub).st.ins
    have k1 := I.h; have k2 := I.on
    walk_at "jrd"
    exact q p H' hn he_1 hp
abbrev N_Mesh_holding : List Str := ["self"]
theorem sc_Mesh_holding : FnScope N_Mesh_holding ["self"] (defScope s_Mesh_holding) := ⟨rfl, rfl, rfl, by decide +kernel, rfl, by decide +kernel, by decide +kernel⟩
theorem ok_Mesh_holding (T : Txt w K mg) : OkF P w K mg base 2 (mA K "Mesh" "holding") ["self"] (fun vs H Q _ => ∃ (x pl : Addr) (turn : Int) (Ss : List SD) (D : SD) (G : Hp), vs = [.ref x] ∧ MeshAt K G H x pl turn (Ss ++ [D]) ∧ ∀ p H', H p = none → Same H H' → H' p = some (.lst (intsN D.held)) → Q (.ref p) H') := by
  obtain ⟨fd_Mesh_now, c_Mesh_now⟩ := ok_Mesh_now (P := P) (base := base) T
  have cl_Mesh := Tc_Mesh T
  have cl_Standing := Tc_Standing T
  have na_Standing_held := Tn_Standing_held T
  refine okF (Td_Mesh_holding T) sc_Mesh_holding (fun _ _ _ _ _ _ us hl => match us, hl with | [_], _ => rfl) (fun vs H Q E h => ?_) (fun cdv A outer s H vs Q E hr h => have hu := hu_of hr; ⟨_, (pss_one (ps_ret (pe_callTy (call_listJ K) (by rfl) (Tf_list T) (by decide +kernel) (pa_cons (pe_fldK K (pe_meth0 (pv 0) (Tc_Mesh T) (Tm_Mesh_now T) c_Mesh_now.1 (hr.mono (by decide)) c_Mesh_now.2.1 .nil pass0) rfl) pa_nil)))), ?_⟩)
  · obtain ⟨x, pl, turn, Ss, D, G, rfl, _⟩ := h
    rfl
  · obtain ⟨x, pl, turn, Ss, D, G, rfl, M, q⟩ := h
    obtain ⟨dx, fs, i1, i2, i3, i4⟩ := M.ins
    have j1 := M.sub _ _ i1
    walk_at "jrd"
    refine ⟨x, pl, turn, Ss, D, G, rfl, M, fun a S => ?_⟩
    obtain ⟨dx2, on, ro, he, ne, fs2, I, _, _, h1, _⟩ := (S.same M.sub).st.ins
    have k1 := I.h; have k2 := I.he
    walk_at "jrd"
    exact q p H' hn he_1 hp
abbrev N_Mesh_standing : List Str := ["self"]
theorem sc_Mesh_standing : FnScope N_Mesh_standing ["self"] (defScope s_Mesh_standing) := ⟨rfl, rfl, rfl, by decide +kernel, rfl, by decide +kernel, by decide +kernel⟩
theorem ok_Mesh_standing (T : Txt w K mg) : OkF P w K mg base 2 (mA K "Mesh" "standing") ["self"] (fun vs H Q _ => ∃ (x pl : Addr) (turn : Int) (Ss : List SD) (D : SD) (G : Hp), vs = [.ref x] ∧ MeshAt K G H x pl turn (Ss ++ [D]) ∧ ∀ p H' ws, H p = none → Same H H' → H' p = some (.lst ws) → Tups H' encN ws D.rows → Q (.ref p) H') := by
  obtain ⟨fd_Standing_rows_told, c_Standing_rows_told⟩ := ok_Standing_rows_told (P := P) (base := base) T
  obtain ⟨fd_Mesh_now, c_Mesh_now⟩ := ok_Mesh_now (P := P) (base := base) T
  have cl_Mesh := Tc_Mesh T
  have cl_Standing := Tc_Standing T
  refine okF (Td_Mesh_standing T) sc_Mesh_standing (fun _ _ _ _ _ _ us hl => match us, hl with | [_], _ => rfl) (fun vs H Q E h => ?_) (fun cdv A outer s H vs Q E hr h => have hu := hu_of hr; ⟨_, (pss_one (ps_ret (pe_meth0 (pe_meth0 (pv 0) (Tc_Mesh T) (Tm_Mesh_now T) c_Mesh_now.1 (hr.mono (by decide)) c_Mesh_now.2.1 .nil pass0) (Tc_Standing T) (Tm_Standing_rows_told T) c_Standing_rows_told.1 (hr.mono (by decide)) c_Standing_rows_told.2.1 .nil pass0))), ?_⟩)
  · obtain ⟨x, pl, turn, Ss, D, G, rfl, _⟩ := h
    rfl
  · obtain ⟨x, pl, turn, Ss, D, G, rfl, M, q⟩ := h
    obtain ⟨dx, fs, i1, i2, i3, i4⟩ := M.ins
    have j1 := M.sub _ _ i1
    walk_at "jrd"
    refine ⟨x, pl, turn, Ss, D, G, rfl, M, fun a S => ?_⟩
    have S' := S.same M.sub
    obtain ⟨dx2, fs2, k1, k2⟩ := S'.insx
    walk_at "jrd"
    exact ⟨a, D, rfl, S', q⟩
abbrev N_Mesh_class_of : List Str := ["self", "name"]
theorem sc_Mesh_class_of : FnScope N_Mesh_class_of ["self", "name"] (defScope s_Mesh_class_of) := ⟨rfl, rfl, rfl, by decide +kernel, rfl, by decide +kernel, by decide +kernel⟩
theorem ok_Mesh_class_of (T : Txt w K mg) : OkF P w K mg base 4 (mA K "Mesh" "class_of") ["self", "name"] (fun vs H Q _ => ∃ (x pl : Addr) (n : Str) (turn : Int) (Ss : List SD) (D : SD) (G : Hp), vs = [.ref x, .str n] ∧ MeshAt K G H x pl turn (Ss ++ [D]) ∧ n ∈ D.names ∧ ∀ p H', H p = none → Same H H' → H' p = some (.lst ((D.names.filter fun m => D.lab n = D.lab m).map V.str)) → Q (.ref p) H') := by
  obtain ⟨fd_Mesh_look_names, c_Mesh_look_names⟩ := ok_Mesh_look_names (P := P) (base := base) T
  obtain ⟨fd_Standing_class_with, c_Standing_class_with⟩ := ok_Standing_class_with (P := P) (base := base) T
  obtain ⟨fd_Mesh_now, c_Mesh_now⟩ := ok_Mesh_now (P := P) (base := base) T
  have cl_Mesh := Tc_Mesh T
  have cl_Standing := Tc_Standing T
  refine okF (Td_Mesh_class_of T) sc_Mesh_class_of (fun _ _ _ _ _ _ us hl => match us, hl with | [_, _], _ => rfl) (fun vs H Q E h => ?_) (fun cdv A outer s H vs Q E hr h => have hu := hu_of hr; ⟨_, (pss_cons (ps_expr (pe_meth (pv 0) (Tc_Mesh T) (Tm_Mesh_look_names T) c_Mesh_look_names.1 (hr.mono (by decide)) c_Mesh_look_names.2.1 .nil pass0 (pa_cons (pe_lst (pa_cons (pv 1) pa_nil)) pa_nil)))
      (pss_one (ps_ret (pe_meth (pe_meth0 (pv 0) (Tc_Mesh T) (Tm_Mesh_now T) c_Mesh_now.1 (hr.mono (by decide)) c_Mesh_now.2.1 .nil pass0) (Tc_Standing T) (Tm_Standing_class_with T) c_Standing_class_with.1 (hr.mono (by decide)) c_Standing_class_with.2.1 .nil pass0 (pa_cons (pv 1) pa_nil))))), ?_⟩)
  · obtain ⟨x, pl, n, turn, Ss, D, G, rfl, _⟩ := h
    rfl
  · obtain ⟨x, pl, n, turn, Ss, D, G, rfl, M, hn, q⟩ := h
    obtain ⟨dx, fs, i1, i2, i3, i4⟩ := M.ins
    have j1 := M.sub _ _ i1
    walk_at "jrd"
    have M1 := M.same he
    refine ⟨x, pl, p, turn, Ss, D, G, [n], rfl, M1, hp, by simp [hn], ?_⟩
    walk_at "jrd"
    refine ⟨x, pl, turn, Ss, D, G, rfl, M1, fun a S => ?_⟩
    have S' := S.same M1.sub
    obtain ⟨dx2, fs2, k1, k2⟩ := S'.insx
    walk_at "jrd"
    exact ⟨a, n, D, rfl, S', hn, fun p2 H2 hn2 e2 h2 => q p2 H2 (he.free hn2) (he.trans e2) h2⟩
def sp_mway (K : PySem.W.Frag) : Sp := fun vs H Q _ => ∃ (x pl : Addr) (n m : Str) (turn : Int) (Ss : List SD) (D : SD) (G : Hp), vs = [.ref x, .str n, .str m] ∧ MeshAt K G H x pl turn (Ss ++ [D]) ∧ n ∈ D.names ∧ m ∈ D.names ∧
  ∀ (H' : Hp) (L : List (Str × Wy)), Same H H' → Grow D.edges n L → Closed D.edges L → (¬ D.lab n = D.lab m → Q .non H') ∧ (∀ (w : Wy) (a : Addr), (m, w) ∈ L → WayAt H' a w → D.lab n = D.lab m → Q (.ref a) H')
theorem r_got {H : Hp} {Q : VK} {p : Addr} {L : List (Str × Wy)} {m : Str} {wa : Str → Addr} (h : H p = some (.dK (dmap (L.map (·.1)) fun n => .ref (wa n)))) (h2 : ∀ q ∈ L, WayAt H (wa q.1) q.2) (k1 : ¬ m ∈ L.map (·.1) → Q .non H) (k2 : ∀ w, (m, w) ∈ L → WayAt H (wa m) w → Q (.ref (wa m)) H) : Q ((valV (dmap (L.map (·.1)) fun n => V.ref (wa n)) (Sum.inr m : Key)).getD .non) H := by
  by_cases hm : m ∈ L.map (·.1)
  · rw [valV_dmap hm]
    obtain ⟨⟨m', w⟩, hq, rfl⟩ := List.mem_map.mp hm
    exact k2 w hq (h2 _ hq)
  · rw [valV_dmap_not hm]
    exact k1 hm
abbrev N_Mesh_way : List Str := ["self", "one", "other"]
theorem sc_Mesh_way : FnScope N_Mesh_way ["self", "one", "other"] (defScope s_Mesh_way) := ⟨rfl, rfl, rfl, by decide +kernel, rfl, by decide +kernel, by decide +kernel⟩
theorem ok_Mesh_way (T : Txt w K mg) : OkF P w K mg base 3 (mA K "Mesh" "way") ["self", "one", "other"] (sp_mway K) := by
  obtain ⟨fd_Mesh_look_names, c_Mesh_look_names⟩ := ok_Mesh_look_names (P := P) (base := base) T
  obtain ⟨fd_Standing_ways_from, c_Standing_ways_from⟩ := ok_Standing_ways_from (P := P) (base := base) T
  obtain ⟨fd_Mesh_now, c_Mesh_now⟩ := ok_Mesh_now (P := P) (base := base) T
  have cl_Mesh := Tc_Mesh T
  have cl_Standing := Tc_Standing T
  refine okF (Td_Mesh_way T) sc_Mesh_way (fun _ _ _ _ _ _ us hl => match us, hl with | [_, _, _], _ => rfl) (fun vs H Q E h => ?_) (fun cdv A outer s H vs Q E hr h => have hu := hu_of hr; ⟨_, (pss_cons (ps_expr (pe_meth (pv 0) (Tc_Mesh T) (Tm_Mesh_look_names T) c_Mesh_look_names.1 (hr.mono (by decide)) c_Mesh_look_names.2.1 .nil pass0 (pa_cons (pe_lst (pa_cons (pv 1) (pa_cons (pv 2) pa_nil))) pa_nil)))
      (pss_one (ps_ret (pe_dget1 hu (pe_meth (pe_meth0 (pv 0) (Tc_Mesh T) (Tm_Mesh_now T) c_Mesh_now.1 (hr.mono (by decide)) c_Mesh_now.2.1 .nil pass0) (Tc_Standing T) (Tm_Standing_ways_from T) c_Standing_ways_from.1 (hr.mono (by decide)) c_Standing_ways_from.2.1 .nil pass0 (pa_cons (pv 1) pa_nil)) (pv 2) ⟨rfl, rfl, rfl, rfl⟩)))), ?_⟩)
  · obtain ⟨x, pl, n, m, turn, Ss, D, G, rfl, _⟩ := h
    rfl
  · obtain ⟨x, pl, n, m, turn, Ss, D, G, rfl, M, hn, hm, q⟩ := h
    obtain ⟨dx, fs, i1, i2, i3, i4⟩ := M.ins
    have j1 := M.sub _ _ i1
    walk_at "jrd"
    have M1 := M.same he
    refine ⟨x, pl, p, turn, Ss, D, G, [n, m], rfl, M1, hp, by simp [hn, hm], ?_⟩
    walk_at "jrd"
    refine ⟨x, pl, turn, Ss, D, G, rfl, M1, fun a S => ?_⟩
    have S' := S.same M1.sub
    obtain ⟨dx2, fs2, k1, k2⟩ := S'.insx
    walk_at "jrd"
    refine ⟨a, n, D, rfl, S', hn, fun p2 H2 L hn2 e2 ⟨wa, F1, F2⟩ g c => ?_⟩
    walk_at "jrd"
    have qq := q H2 L (he.trans e2) g c
    refine r_got F1 F2 (fun hno => qq.1 fun z => hno ((S.ok.reach g c).mpr z)) fun w hw ha => qq.2 w _ hw ha ((S.ok.reach g c).mp (List.mem_map.mpr ⟨_, hw, rfl⟩))
end
section
variable {P : Program} {w : World} {K : PySem.W.Frag} {mg : Str → Option Value} {base : Heap}
theorem grow_pairs {D : SD} (ok : D.Ok) {x : Str} {L : List (Str × Wy)} (g : Grow D.edges x L) : ∀ q ∈ L, ∀ p ∈ q.2, p.1 ∈ D.held ∧ (p.2 = 1 ∨ p.2 = -1) := by
  induction g with
  | start => intro q hq; have : q = (x, []) := by simpa using hq
             subst this; intro p hp; cases hp
  | @more L z y wz n s _ hz he _ ih =>
    intro q hq p hp
    rcases List.mem_append.mp hq with h | h
    · exact ih q h p hp
    · have : q = (y, wz ++ [(n, s)]) := by simpa using h
      subst this
      rcases List.mem_append.mp hp with h2 | h2
      · exact ih _ hz p h2
      · have : p = (n, s) := by simpa using h2
        subst this
        obtain ⟨h3, h4⟩ := (edgesOf_of D.rows D.held _ _ _ _).mp he
        exact ⟨h3, h4.imp (·.1) (·.1)⟩
theorem grow_len {D : SD} (ok : D.Ok) {x : Str} {L : List (Str × Wy)} (hx : x ∈ D.names) (g : Grow D.edges x L) : ∀ q ∈ L, q.2.length < 64 := fun q hq => by
  have h1 := grow_wlen g q hq
  have h2 := nodup_sub_len g.nodup (grow_sub g hx ok.near)
  rw [List.length_map] at h2
  have := ok.few; omega
/-- all steps right -/
def Right (sp : Str → Int) (turn : Int) (D : SD) : Prop := ∀ r ∈ D.rows, (r.2.2.2 - (sp r.2.2.1 - sp r.2.1)) % turn = 0
theorem right_way {D : SD} (ok : D.Ok) {sp : Str → Int} {turn : Int} (R : Right sp turn D) {x y : Str} {w : Wy} {L : List (Str × Wy)} (g : Grow D.edges x L) (h : (y, w) ∈ L) : (wsum (stepOf D.rows) w - (sp y - sp x)) % turn = 0 := by
  refine Grow.steps (edgesOf_of D.rows D.held) g (st := stepOf D.rows) (fun n hn => ?_) (y, w) h
  obtain ⟨r, hr⟩ := row_some (ok.heldIn hn)
  have e1 : edR D.rows n = (r.1, r.2.1) := by unfold edR; rw [hr]
  have e2 : stepOf D.rows n = r.2.2 := by unfold stepOf; rw [hr]
  rw [e1, e2]
  exact R _ (rowOf_mem hr)
theorem right_cnt {D : SD} (ok : D.Ok) {sp : Str → Int} {turn st : Int} (t0 : 0 ≤ turn) (R : Right sp turn D) {x y : Str} {w : Wy} {L : List (Str × Wy)} (g : Grow D.edges x L) (h : (y, w) ∈ L) (hs : (st - (sp y - sp x)) % turn = 0) : cnt turn (wsum (stepOf D.rows) w) = cnt turn st :=
  cnt_congr t0 (by
    have := mod_sub (right_way ok R g h) hs
    have e : wsum (stepOf D.rows) w - (sp y - sp x) - (st - (sp y - sp x)) = wsum (stepOf D.rows) w - st := by omega
    rwa [e] at this)
def GrowM (G H G' : Hp) : Prop := Same G G' ∧ ∀ b, H b ≠ none → G b = none → G' b = none
theorem GrowG.m {G H G' H' : Hp} (g : GrowG G H G' H') : GrowM G H G' := ⟨g.sub, g.non⟩
theorem map_ref_inj : ∀ {a b : List Addr}, a.map V.ref = b.map V.ref → a = b
  | [], [], _ => rfl
  | [], _ :: _, h => by cases h
  | _ :: _, [], h => by cases h
  | x :: r, y :: t, h => by
    rw [List.map_cons, List.map_cons] at h
    injection h with h1 h2
    injection h1 with h1
    rw [h1, map_ref_inj h2]
theorem MeshAt.push {K : PySem.W.Frag} {G H H1 H2 G1 : Hp} {x pl : Addr} {turn : Int} {Ss : List SD} {D' : SD} {as : List Addr} {a' : Addr} (M : MeshAt K G H x pl turn Ss) (g : GrowG G H G1 H1) (h : H pl = some (.lst (as.map V.ref))) (f : Fr1 pl H1 H2) (h2 : H2 pl = some (.lst (as.map V.ref ++ [.ref a']))) (S : StAt K G1 a' D') (hl : Ss.length < 400) : MeshAt K G1 H2 x pl turn (Ss ++ [D']) := by
  obtain ⟨as', h1, hlen, h3⟩ := M.past
  have e : as' = as := by
    rw [h1] at h
    injection h with h; injection h with h
    exact map_ref_inj h
  subst e
  have hg : G1 pl = none := g.non pl (by rw [h1]; simp) M.gpl
  obtain ⟨dx, fs, i1, i2, i3, i4⟩ := M.ins
  refine ⟨Same.mut g.inn hg f, ⟨dx, fs, g.sub _ _ i1, i2, i3, i4⟩, ⟨as' ++ [a'], by rw [h2, List.map_append]; rfl, by simp [hlen], fun i b E hb hE => ?_⟩, hg, by simp; omega⟩
  rcases Nat.lt_or_ge i as'.length with hi | hi
  · rw [List.getElem?_append_left hi] at hb
    rw [List.getElem?_append_left (by omega)] at hE
    exact (h3 i b E hb hE).same g.sub
  · have hi2 : i = as'.length := by
      have := (List.getElem?_eq_some_iff.mp hb).1
      simp at this; omega
    subst hi2
    have e1 : b = a' := by simpa using hb.symm
    rw [hlen] at hE
    have e2 : E = D' := by simpa using hE.symm
    subst e1 e2
    exact S
abbrev N_Mesh_steps : List Str := ["self", "one", "other", "way"]
theorem sc_Mesh_steps : FnScope N_Mesh_steps ["self", "one", "other"] (defScope s_Mesh_steps) := ⟨rfl, rfl, rfl, by decide +kernel, rfl, by decide +kernel, by decide +kernel⟩
theorem ok_Mesh_steps (T : Txt w K mg) : OkF P w K mg base 4 (mA K "Mesh" "steps") ["self", "one", "other"] (fun vs H Q _ => ∃ (x pl : Addr) (n m : Str) (turn : Int) (Ss : List SD) (D : SD) (G : Hp) (sp : Str → Int), vs = [.ref x, .str n, .str m] ∧ MeshAt K G H x pl turn (Ss ++ [D]) ∧ n ∈ D.names ∧ m ∈ D.names ∧ D.lab n = D.lab m ∧ Right sp turn D ∧ 0 ≤ turn ∧ ∀ H', Same H H' → Q (.int (cnt turn (sp m - sp n))) H') := by
  obtain ⟨fd_Mesh_way, c_Mesh_way⟩ := ok_Mesh_way (P := P) (base := base) T
  obtain ⟨fd_Standing_steps_on, c_Standing_steps_on⟩ := ok_Standing_steps_on (P := P) (base := base) T
  obtain ⟨fd_Mesh_now, c_Mesh_now⟩ := ok_Mesh_now (P := P) (base := base) T
  have cl_Mesh := Tc_Mesh T
  have cl_Standing := Tc_Standing T
  have na_Mesh_turn := Tn_Mesh_turn T
  refine okF (Td_Mesh_steps T) sc_Mesh_steps (fun _ _ _ _ _ _ us hl => match us, hl with | [_, _, _], _ => rfl) (fun vs H Q E h => ?_) (fun cdv A outer s H vs Q E hr h => have hu := hu_of hr; ⟨_, (pss_cons (ps_set (i := 3) sc_Mesh_steps.nd rfl (by first | exact Or.inl rfl | exact Or.inr rfl) (pe_meth (pv 0) (Tc_Mesh T) (Tm_Mesh_way T) c_Mesh_way.1 (hr.mono (by decide)) c_Mesh_way.2.1 .nil pass0 (pa_cons (pv 1) (pa_cons (pv 2) pa_nil))))
      (pss_cons (ps_if (pt_cmp (pc_isN (pv 3))) (pss_one (ps_ret pe_non)) pss_nil)
      (pss_one (ps_ret (pe_meth (pe_meth0 (pv 0) (Tc_Mesh T) (Tm_Mesh_now T) c_Mesh_now.1 (hr.mono (by decide)) c_Mesh_now.2.1 .nil pass0) (Tc_Standing T) (Tm_Standing_steps_on T) c_Standing_steps_on.1 (hr.mono (by decide)) c_Standing_steps_on.2.1 .nil pass0 (pa_cons (pe_fldK K (pv 0) rfl) (pa_cons (pv 3) pa_nil))))))), ?_⟩)
  · obtain ⟨x, pl, n, m, turn, Ss, D, G, sp, rfl, _⟩ := h
    rfl
  · obtain ⟨x, pl, n, m, turn, Ss, D, G, sp, rfl, M, hn, hm, hlab, R, t0, q⟩ := h
    obtain ⟨dx, fs, i1, i2, i3, i4⟩ := M.ins
    have j1 := M.sub _ _ i1
    walk_at "jrd"
    refine ⟨x, pl, n, m, turn, Ss, D, G, rfl, M, hn, hm, fun H1 L e1 g c => ⟨fun z => absurd hlab z, fun w a hw ha _ => ?_⟩⟩
    have M1 := M.same e1
    have j2 := M1.sub _ _ i1
    clear j1
    walk_at "jrd"
    refine ite_F (by simp) ?_
    walk_at "jrd"
    refine ⟨x, pl, turn, Ss, D, G, rfl, M1, fun b S => ?_⟩
    have S' := S.same M1.sub
    obtain ⟨dx2, fs2, k1, k2⟩ := S'.insx
    have ok := S.ok
    walk_at "jrd"
    refine ⟨b, a, turn, w, D, rfl, S', ha, fun p hp => ?_, by have := grow_len ok hn g _ hw; simp at this; omega, fun H2 e2 => ?_⟩
    · have := grow_pairs ok g _ hw p hp
      exact ⟨ok.heldIn this.1, this.2⟩
    · rw [right_cnt ok t0 R g hw (st := sp m - sp n) (by simp)]
      exact q H2 (e1.trans e2)
def sp_mjoin (K : PySem.W.Frag) : Sp := fun vs H Q _ => ∃ (x pl : Addr) (o p : Str) (st turn : Int) (Ss : List SD) (D : SD) (G : Hp) (sp : Str → Int), vs = [.ref x, .str o, .str p, .int st] ∧ MeshAt K G H x pl turn (Ss ++ [D]) ∧ o ∈ D.names ∧ p ∈ D.names ∧ Right sp turn D ∧ 0 ≤ turn ∧ (st - (sp p - sp o)) % turn = 0 ∧ D.coming < 400 ∧ Ss.length < 399 ∧
  ∀ (q : Addr) (H' G' : Hp), Fr1 pl H H' → GrowM G H G' → MeshAt K G' H' x pl turn (Ss ++ [D] ++ [D.more (o, p, st)]) → H' q = some (.tup [.str (if D.lab o = D.lab p then "known" else "joined"), .int (D.coming : Nat)]) → Q (.ref q) H'
abbrev N_Mesh_join : List Str := ["self", "one", "other", "step", "here", "way"]
theorem sc_Mesh_join : FnScope N_Mesh_join ["self", "one", "other", "step"] (defScope s_Mesh_join) := ⟨rfl, rfl, rfl, by decide +kernel, rfl, by decide +kernel, by decide +kernel⟩
theorem ok_Mesh_join (T : Txt w K mg) : OkF P w K mg base 4 (mA K "Mesh" "join") ["self", "one", "other", "step"] (sp_mjoin K) := by
  obtain ⟨fd_Mesh_look_names, c_Mesh_look_names⟩ := ok_Mesh_look_names (P := P) (base := base) T
  obtain ⟨fd_Mesh_now, c_Mesh_now⟩ := ok_Mesh_now (P := P) (base := base) T
  obtain ⟨fd_Standing_ways_from, c_Standing_ways_from⟩ := ok_Standing_ways_from (P := P) (base := base) T
  obtain ⟨fd_Standing_steps_on, c_Standing_steps_on⟩ := ok_Standing_steps_on (P := P) (base := base) T
  obtain ⟨fd_counted, c_counted⟩ := ok_counted (P := P) (base := base) T
  obtain ⟨fd_Standing_with_joining, c_Standing_with_joining⟩ := ok_Standing_with_joining (P := P) (base := base) T
  have cl_Mesh := Tc_Mesh T
  have cl_Standing := Tc_Standing T
  have na_Mesh_past := Tn_Mesh_past T
  have na_Mesh_turn := Tn_Mesh_turn T
  have na_Standing_coming := Tn_Standing_coming T
  refine okF (Td_Mesh_join T) sc_Mesh_join (fun _ _ _ _ _ _ us hl => match us, hl with | [_, _, _, _], _ => rfl) (fun vs H Q E h => ?_) (fun cdv A outer s H vs Q E hr h => have hu := hu_of hr; ⟨_, (pss_cons (ps_expr (pe_meth (pv 0) (Tc_Mesh T) (Tm_Mesh_look_names T) c_Mesh_look_names.1 (hr.mono (by decide)) c_Mesh_look_names.2.1 .nil pass0 (pa_cons (pe_lst (pa_cons (pv 1) (pa_cons (pv 2) pa_nil))) pa_nil)))
      (pss_cons (ps_set (i := 4) sc_Mesh_join.nd rfl (by first | exact Or.inl rfl | exact Or.inr rfl) (pe_meth0 (pv 0) (Tc_Mesh T) (Tm_Mesh_now T) c_Mesh_now.1 (hr.mono (by decide)) c_Mesh_now.2.1 .nil pass0))
      (pss_cons (ps_set (i := 5) sc_Mesh_join.nd rfl (by first | exact Or.inl rfl | exact Or.inr rfl) (pe_dget1 hu (pe_meth (pv 4) (Tc_Standing T) (Tm_Standing_ways_from T) c_Standing_ways_from.1 (hr.mono (by decide)) c_Standing_ways_from.2.1 .nil pass0 (pa_cons (pv 1) pa_nil)) (pv 2) ⟨rfl, rfl, rfl, rfl⟩))
      (pss_cons (ps_if (PW.pt (pw_and (pt_cmp (pc_notN (pv 5))) (pw_and1 (pt_cmpR op_ne (pe_meth (pv 4) (Tc_Standing T) (Tm_Standing_steps_on T) c_Standing_steps_on.1 (hr.mono (by decide)) c_Standing_steps_on.2.1 .nil pass0 (pa_cons (pe_fldK K (pv 0) rfl) (pa_cons (pv 5) pa_nil))) (pe_call c_counted.1 (hr.mono (by decide)) rfl (Tg_counted T) c_counted.2.2 c_counted.2.1 .nil pass0 (pa_cons (pe_fldK K (pv 0) rfl) (pa_cons (pv 3) pa_nil))) (nomark _))))) (pss_one (ps_ret (pe_tup (pa_cons pe_str (pa_cons (pv 5) pa_nil))))) pss_nil)
      (pss_cons (ps_expr (pe_bm PySem.F.plainAttrs_list PySem.F.slot_list_append PySem.F.type_list_append mt_append (pe_fldK K (pv 0) rfl) (pa_cons (pe_meth (pv 4) (Tc_Standing T) (Tm_Standing_with_joining T) c_Standing_with_joining.1 (hr.mono (by decide)) c_Standing_with_joining.2.1 .nil pass0 (pa_cons (pe_tup (pa_cons (pv 1) (pa_cons (pv 2) (pa_cons (pv 3) pa_nil)))) (pa_cons (pe_cmp (pc_isN (pv 5)) rfl) pa_nil))) pa_nil)))
      (pss_one (ps_ret (pe_tup (pa_cons (pe_ifExp (pt_cmp (pc_isN (pv 5))) pe_str pe_str) (pa_cons (pe_fldK K (pv 4) rfl) pa_nil)))))))))), ?_⟩)
  · obtain ⟨x, pl, o, p, st, turn, Ss, D, G, sp, rfl, _⟩ := h
    rfl
  · obtain ⟨x, pl, o, p', st, turn, Ss, D, G, sp, rfl, M, ho, hp', R, t0, hst, hc, hl, q⟩ := h
    obtain ⟨dx, fs, i1, i2, i3, i4⟩ := M.ins
    have j1 := M.sub _ _ i1
    walk_at "jrd"
    have M1 := M.same he
    refine ⟨x, pl, p, turn, Ss, D, G, [o, p'], rfl, M1, hp, by simp [ho, hp'], ?_⟩
    walk_at "jrd"
    refine ⟨x, pl, turn, Ss, D, G, rfl, M1, fun a S => ?_⟩
    have S' := S.same M1.sub
    have ok := S.ok
    obtain ⟨dx2, fs2, k1, k2⟩ := S'.insx
    clear j1
    walk_at "jrd"
    refine ⟨a, o, D, rfl, S', ho, fun p2 H2 L hn2 e2 ⟨wa, F1, F2⟩ g c => ?_⟩
    walk_at "jrd"
    have e02 := he.trans e2
    clear k1
    have M2 := M1.same e2
    obtain ⟨as, al, hpl, hasl, _, _⟩ := M.last
    have j2 := M2.sub _ _ i1
    obtain ⟨dx3, on, ro, he3, ne, fs3, I3, _⟩ := S.st.ins
    have k0 := M.sub _ _ I3.h; have k3 := I3.nm; have k4 := I3.co
    have k1 := e02 _ _ k0
    have fin : ∀ (H4 : Hp) (p1 : Addr) (QQ : VK), H p1 = none → Same H H4 → H4 p1 = some (.tup [.str o, .str p', .int st]) → (∀ (a' : Addr) (H5 G5 : Hp), Same H H5 → GrowG G H G5 H5 → StAt K G5 a' (D.more (o, p', st)) → QQ (.ref a') H5) → sp_with_joining K [.ref a, .ref p1, .bl (decide (¬ D.lab o = D.lab p'))] H4 QQ E0 := by
      intro H4 p1 QQ h1 e4 h4 kk
      have gg := GrowG.of M.sub e4
      exact ⟨a, p1, (o, p', st), D, gh G H H4, rfl, gg.inn, S.same gg.sub, by rw [gh_new h1]; exact h4, ho, hp', hc, fun a' H5 G5 s5 g5 S5 => kk a' H5 G5 (e4.trans s5) (gg.trans e4 g5) S5⟩
    have done : ∀ (a' : Addr) (H5 G5 H6 H7 : Hp) (q7 : Addr), Same H H5 → GrowG G H G5 H5 → StAt K G5 a' (D.more (o, p', st)) → Fr1 pl H5 H6 → H6 pl = some (.lst (as.map V.ref ++ [.ref al] ++ [.ref a'])) → Same H6 H7 → H7 q7 = some (.tup [.str (if D.lab o = D.lab p' then "known" else "joined"), .int (D.coming : Nat)]) → Q (.ref q7) H7 := by
      intro a' H5 G5 H6 H7 q7 e5 g5 S5 f6 h6 e7 h7
      have hm : as.map V.ref ++ [.ref al] = (as ++ [al]).map V.ref := by rw [List.map_append]; rfl
      rw [hm] at hpl h6
      exact q q7 H7 G5 (fun b o h n => e7 _ _ (f6 _ _ (e5 _ _ h) n)) g5.m ((M.push g5 hpl f6 h6 S5 (by simp; omega)).same e7) h7
    have hlen64 := fun (w : Wy) (hw : (p', w) ∈ L) => grow_len ok ho g (p', w) hw
    by_cases hm : p' ∈ L.map (·.1)
    · rw [valV_dmap hm]
      dsimp only [Option.getD_some]
      have hlab : D.lab o = D.lab p' := (ok.reach g c).mp hm
      obtain ⟨⟨m', w'⟩, hw, rfl⟩ := List.mem_map.mp hm
      have ha := F2 _ hw
      refine ite_T (by simp) ?_
      walk_at "jrd"
      refine ⟨a, wa m', turn, w', D, rfl, S'.same e2, ha, fun p hp => ?_, by have := hlen64 w' hw; simp at this; omega, fun H3 e3 => ?_⟩
      · have := grow_pairs ok g _ hw p hp
        exact ⟨ok.heldIn this.1, this.2⟩
      have j3 := e3 _ _ j2
      have k13 := e3 _ _ k1
      clear j2 k1
      walk_at "jrd"
      refine ⟨turn, st, rfl, ?_⟩
      rw [right_cnt ok t0 R g hw hst]
      walk_at "jrd"
      refine ite_F (by simp) ?_
      walk_at "jrd"
      rw [show decide (V.ref (wa m') = V.non) = decide (¬ D.lab o = D.lab m') by simp [hlab]]
      refine fin _ _ _ ((e02.trans e3).free hn_1) ((e02.trans e3).trans he_1) hp_1 fun a' H5 G5 e5 g5 S5 => ?_
      have hpl5 := e5 _ _ hpl
      have k5 := e5 _ _ k0
      clear k0 k13 hpl j3 e3 he_1
      walk_at "jrd"
      refine ite_F (by simp) ?_
      walk_at "jrd"
      refine done _ _ _ _ _ _ e5 g5 S5 hf hp_2 he_1 ?_
      rw [hp_3, if_pos hlab]
    · rw [valV_dmap_not hm]
      dsimp only [Option.getD_none]
      have hlab : ¬ D.lab o = D.lab p' := fun z => hm ((ok.reach g c).mpr z)
      refine ite_F (by simp) ?_
      walk_at "jrd"
      refine ite_F rfl ?_
      walk_at "jrd"
      rw [show decide (V.non = V.non) = decide (¬ D.lab o = D.lab p') by simp [hlab]]
      refine fin _ _ _ (e02.free hn_1) (e02.trans he_1) hp_1 fun a' H5 G5 e5 g5 S5 => ?_
      have hpl5 := e5 _ _ hpl
      have k5 := e5 _ _ k0
      clear k0 k1 hpl he_1 j2
      walk_at "jrd"
      refine ite_T (by simp) ?_
      walk_at "jrd"
      refine done _ _ _ _ _ _ e5 g5 S5 hf hp_2 he_1 ?_
      rw [hp_3, if_neg hlab]
end
section
variable {P : Program} {w : World} {K : PySem.W.Frag} {mg : Str → Option Value} {base : Heap}
/-- what a take tells -/
def TakeAt (H : Hp) (q : Addr) (D : SD) (k : Nat) : Prop :=
  (¬ k ∈ D.held ∧ H q = some (.tup [.str "spare"])) ∨
  (k ∈ D.held ∧ ∃ j, j ∈ D.nums ∧ CrP D k j ∧ (∀ i ∈ D.nums, i < j → ¬ CrP D k i) ∧ H q = some (.tup [.str "held", .int (j : Nat)])) ∨
  (k ∈ D.held ∧ (∀ j ∈ D.nums, ¬ CrP D k j) ∧ ∃ (r : Str × Str × Int) (c1 c2 : Addr), (k, r) ∈ D.rows ∧ H q = some (.tup [.str "parted", .ref c1, .ref c2]) ∧
    H c1 = some (.lst ((D.names.filter fun m => (D.less k).lab r.1 = (D.less k).lab m).map V.str)) ∧ H c2 = some (.lst ((D.names.filter fun m => (D.less k).lab r.2.1 = (D.less k).lab m).map V.str)))
def sp_mtake (K : PySem.W.Frag) : Sp := fun vs H Q _ => ∃ (x pl : Addr) (k : Nat) (turn : Int) (Ss : List SD) (D : SD) (G : Hp), vs = [.ref x, .int (k : Nat)] ∧ MeshAt K G H x pl turn (Ss ++ [D]) ∧ k ∈ D.nums ∧ Ss.length < 399 ∧
  ∀ (q : Addr) (H' G' : Hp), Fr1 pl H H' → GrowM G H G' → MeshAt K G' H' x pl turn (Ss ++ [D] ++ [D.less k]) → TakeAt H' q D k → Q (.ref q) H'
abbrev N_Mesh_take : List Str := ["self", "number", "here", "other", "ends"]
theorem sc_Mesh_take : FnScope N_Mesh_take ["self", "number"] (defScope s_Mesh_take) := ⟨rfl, rfl, rfl, by decide +kernel, rfl, by decide +kernel, by decide +kernel⟩
theorem ok_Mesh_take (T : Txt w K mg) : OkF P w K mg base 4 (mA K "Mesh" "take") ["self", "number"] (sp_mtake K) := by
  obtain ⟨fd_Mesh_now, c_Mesh_now⟩ := ok_Mesh_now (P := P) (base := base) T
  obtain ⟨fd_Standing_without_joining, c_Standing_without_joining⟩ := ok_Standing_without_joining (P := P) (base := base) T
  obtain ⟨fd_Standing_crossing, c_Standing_crossing⟩ := ok_Standing_crossing (P := P) (base := base) T
  obtain ⟨fd_Standing_class_with, c_Standing_class_with⟩ := ok_Standing_class_with (P := P) (base := base) T
  have cl_Mesh := Tc_Mesh T
  have cl_Standing := Tc_Standing T
  have na_Mesh_past := Tn_Mesh_past T
  have na_Standing_held := Tn_Standing_held T
  have na_Standing_rows := Tn_Standing_rows T
  refine okF (Td_Mesh_take T) sc_Mesh_take (fun _ _ _ _ _ _ us hl => match us, hl with | [_, _], _ => rfl) (fun vs H Q E h => ?_) (fun cdv A outer s H vs Q E hr h => have hu := hu_of hr; ⟨_, (pss_cons (ps_set (i := 2) sc_Mesh_take.nd rfl (by first | exact Or.inl rfl | exact Or.inr rfl) (pe_meth0 (pv 0) (Tc_Mesh T) (Tm_Mesh_now T) c_Mesh_now.1 (hr.mono (by decide)) c_Mesh_now.2.1 .nil pass0))
      (pss_cons (ps_if (pt_cmp (pc_dnotin hu (pv 1) (pe_fldK K (pv 2) rfl))) (pss_one ps_never) pss_nil)
      (pss_cons (ps_expr (pe_bm PySem.F.plainAttrs_list PySem.F.slot_list_append PySem.F.type_list_append mt_append (pe_fldK K (pv 0) rfl) (pa_cons (pe_meth (pv 2) (Tc_Standing T) (Tm_Standing_without_joining T) c_Standing_without_joining.1 (hr.mono (by decide)) c_Standing_without_joining.2.1 .nil pass0 (pa_cons (pv 1) pa_nil)) pa_nil)))
      (pss_cons (ps_if (pt_cmpR (op_notInK K) (pv 1) (pe_fldK K (pv 2) rfl) (by rfl)) (pss_one (ps_ret (pe_tup (pa_cons pe_str pa_nil)))) pss_nil)
      (pss_cons (ps_set (i := 3) sc_Mesh_take.nd rfl (by first | exact Or.inl rfl | exact Or.inr rfl) (pe_meth (pv 2) (Tc_Standing T) (Tm_Standing_crossing T) c_Standing_crossing.1 (hr.mono (by decide)) c_Standing_crossing.2.1 .nil pass0 (pa_cons (pv 1) pa_nil)))
      (pss_cons (ps_if (pt_cmp (pc_notN (pv 3))) (pss_one (ps_ret (pe_tup (pa_cons pe_str (pa_cons (pv 3) pa_nil))))) pss_nil)
      (pss_cons (ps_set (i := 4) sc_Mesh_take.nd rfl (by first | exact Or.inl rfl | exact Or.inr rfl) (pe_dget hu (pe_fldK K (pv 2) rfl) (pv 1) (fun _ _ => rfl)))
      (pss_one (ps_ret (pe_tup (pa_cons pe_str (pa_cons (pe_meth (pe_meth0 (pv 0) (Tc_Mesh T) (Tm_Mesh_now T) c_Mesh_now.1 (hr.mono (by decide)) c_Mesh_now.2.1 .nil pass0) (Tc_Standing T) (Tm_Standing_class_with T) c_Standing_class_with.1 (hr.mono (by decide)) c_Standing_class_with.2.1 .nil pass0 (pa_cons (pe_ix (ix_tupK K) (pv 4) pe_int (fun _ _ => rfl)) pa_nil)) (pa_cons (pe_meth (pe_meth0 (pv 0) (Tc_Mesh T) (Tm_Mesh_now T) c_Mesh_now.1 (hr.mono (by decide)) c_Mesh_now.2.1 .nil pass0) (Tc_Standing T) (Tm_Standing_class_with T) c_Standing_class_with.1 (hr.mono (by decide)) c_Standing_class_with.2.1 .nil pass0 (pa_cons (pe_ix (ix_tupK K) (pv 4) pe_int (fun _ _ => rfl)) pa_nil)) pa_nil))))))))))))), ?_⟩)
  · obtain ⟨x, pl, k, turn, Ss, D, G, rfl, _⟩ := h
    rfl
  · obtain ⟨x, pl, k, turn, Ss, D, G, rfl, M, hk, hl, q⟩ := h
    obtain ⟨dx, fs, i1, i2, i3, i4⟩ := M.ins
    have j1 := M.sub _ _ i1
    walk_at "jrd"
    refine ⟨x, pl, turn, Ss, D, G, rfl, M, fun a S => ?_⟩
    obtain ⟨r, hr⟩ := row_some hk
    obtain ⟨dx3, on, ro, he, ne, fs3, I3, _, ⟨ra, h21, h22⟩, h31, _⟩ := S.st.ins
    have ok := S.ok
    have k0 := M.sub _ _ I3.h; have k3 := I3.nm; have k4 := I3.ro; have k5 := I3.he
    have k6 := M.sub _ _ h21
    have k7 := M.sub _ _ h31
    have k8 := M.sub _ _ (h22 _ (rowOf_mem hr))
    unfold encR at k8
    obtain ⟨as, al, hpl, hasl, _, _⟩ := M.last
    walk_at "jrd"
    refine r_dnotinI k6 ?_
    rw [valV_rows hr]
    walk_at "jrd"
    refine ite_F rfl ?_
    walk_at "jrd"
    refine ⟨a, k, D, G, rfl, M.sub, S, hk, fun a' H5 G5 e5 g5 S5 => ?_⟩
    have hpl5 := e5 _ _ hpl
    have j15 := e5 _ _ j1
    clear j1 hpl5
    have hpl5 := e5 _ _ hpl
    walk_at "jrd"
    have hm : as.map V.ref ++ [.ref al] = (as ++ [al]).map V.ref := by rw [List.map_append]; rfl
    have npk : ∀ {b o}, H b = some o → (∀ xs, o ≠ .lst xs) → b ≠ pl := fun h d z => by rw [z, hpl] at h; injection h with h; exact d _ h.symm
    have FF : Fr1 pl H H' := fun b o h n => hf _ _ (e5 _ _ h) n
    have MM : MeshAt K G5 H' x pl turn (Ss ++ [D] ++ [D.less k]) := by
      rw [hm] at hpl hp
      exact M.push g5 hpl hf hp S5 (by simp; omega)
    have gpl : G pl = none := M.gpl
    have nhe : he ≠ pl := ne_of_none h31 gpl
    have c1 : H' a = _ := FF _ _ k0 (ne_of_none I3.h gpl)
    have c2 : H' ro = _ := FF _ _ k6 (ne_of_none h21 gpl)
    have c3 : H' he = _ := FF _ _ k7 nhe
    have c4 : H' (ra k) = _ := FF _ _ k8 (ne_of_none (h22 _ (rowOf_mem hr)) gpl)
    have gM := g5.m
    have S' : StAt K H' a D := (S.same g5.sub).same MM.sub
    clear k0 k6 k7 k8 hpl hpl5 hp hf j15
    walk_at "jrd"
    refine r_ninL c3 rfl (fl_ints _) ?_
    rw [inV_ints]
    walk_at "jrd"
    refine ite_nof (fun hout => ?_) (fun hin => ?_)
    · walk_at "jrd"
      exact q _ _ G5 (FF.upx he_1) gM (MM.same he_1) (.inl ⟨hout, hp⟩)
    · walk_at "jrd"
      refine ⟨a, k, D, rfl, S', hin, fun H6 e6 => ⟨fun j hj hc hlst => ?_, fun hno => ?_⟩⟩
      · walk_at "jrd"
        refine ite_T (by simp) ?_
        walk_at "jrd"
        exact q _ _ G5 ((FF.upx e6).upx he_1) gM ((MM.same e6).same he_1) (.inr (.inl ⟨hin, j, hj, hc, hlst, hp⟩))
      · walk_at "jrd"
        refine ite_F (by simp) ?_
        have d1 := e6 _ _ c1
        have d2 := e6 _ _ c2
        have d4 := e6 _ _ c4
        have M6 := MM.same e6
        have jx := M6.sub _ _ (g5.sub _ _ i1)
        clear c1 c2 c3 c4
        walk_at "jrd"
        refine r_dgetI d2 (valV_rows hr) ?_
        walk_at "jrd"
        refine ⟨x, pl, turn, Ss ++ [D], D.less k, G5, rfl, M6, fun b Sb => ?_⟩
        have Sb' := Sb.same M6.sub
        obtain ⟨dxb, fsb, b1, b2⟩ := Sb'.insx
        have hin' := ok.inn _ (rowOf_mem hr)
        walk_at "jrd"
        refine ⟨b, r.1, D.less k, rfl, Sb', hin'.1, fun p7 H7 hn7 e7 h7 => ?_⟩
        have M7 := M6.same e7
        have jx7 := e7 _ _ jx
        have d47 := e7 _ _ d4
        clear jx d4 d1 b1
        walk_at "jrd"
        refine ⟨x, pl, turn, Ss ++ [D], D.less k, G5, rfl, M7, fun b' Sb' => ?_⟩
        have Sc := Sb'.same M7.sub
        obtain ⟨dxc, fsc, cc1, cc2⟩ := Sc.insx
        walk_at "jrd"
        refine ⟨b', r.2.1, D.less k, rfl, Sc, hin'.2, fun p8 H8 hn8 e8 h8 => ?_⟩
        walk_at "jrd"
        exact q _ _ G5 ((((FF.upx e6).upx e7).upx e8).upx he_1) gM ((M7.same e8).same he_1) (.inr (.inr ⟨hin, hno, r, p7, p8, rowOf_mem hr, hp, he_1 _ _ (e8 _ _ h7), he_1 _ _ h8⟩))
def sp_mput (K : PySem.W.Frag) : Sp := fun vs H Q _ => ∃ (x pl : Addr) (n : Str) (turn : Int) (Ss : List SD) (D : SD) (G : Hp), vs = [.ref x, .str n] ∧ MeshAt K G H x pl turn (Ss ++ [D]) ∧ IsNm n ∧ ¬ n ∈ D.names ∧ D.names.length < 63 ∧ Ss.length < 399 ∧
  ∀ (H' G' : Hp) (ys : List Str), Fr1 pl H H' → GrowM G H G' → ys.Perm (D.names ++ [n]) → MeshAt K G' H' x pl turn (Ss ++ [D] ++ [⟨ys, D.rows, D.coming⟩]) → Q .non H'
abbrev N_Mesh_put_name : List Str := ["self", "name"]
theorem sc_Mesh_put_name : FnScope N_Mesh_put_name ["self", "name"] (defScope s_Mesh_put_name) := ⟨rfl, rfl, rfl, by decide +kernel, rfl, by decide +kernel, by decide +kernel⟩
theorem ok_Mesh_put_name (T : Txt w K mg) : OkF P w K mg base 4 (mA K "Mesh" "put_name") ["self", "name"] (sp_mput K) := by
  obtain ⟨fd_Standing_has_name, c_Standing_has_name⟩ := ok_Standing_has_name (P := P) (base := base) T
  obtain ⟨fd_Mesh_now, c_Mesh_now⟩ := ok_Mesh_now (P := P) (base := base) T
  obtain ⟨fd_is_name, c_is_name⟩ := ok_is_name (P := P) (base := base) T
  obtain ⟨fd_Standing_with_name, c_Standing_with_name⟩ := ok_Standing_with_name (P := P) (base := base) T
  have cl_Mesh := Tc_Mesh T
  have cl_Standing := Tc_Standing T
  have na_Mesh_past := Tn_Mesh_past T
  refine okF (Td_Mesh_put_name T) sc_Mesh_put_name (fun _ _ _ _ _ _ us hl => match us, hl with | [_, _], _ => rfl) (fun vs H Q E h => ?_) (fun cdv A outer s H vs Q E hr h => have hu := hu_of hr; ⟨_, (pss_cons (ps_if (PW.pt (pw_or (pt_not (pt_val (pe_call c_is_name.1 (hr.mono (by decide)) rfl (Tg_is_name T) c_is_name.2.2 c_is_name.2.1 .nil pass0 (pa_cons (pv 1) pa_nil)))) (pw_or1 (pt_val (pe_meth (pe_meth0 (pv 0) (Tc_Mesh T) (Tm_Mesh_now T) c_Mesh_now.1 (hr.mono (by decide)) c_Mesh_now.2.1 .nil pass0) (Tc_Standing T) (Tm_Standing_has_name T) c_Standing_has_name.1 (hr.mono (by decide)) c_Standing_has_name.2.1 .nil pass0 (pa_cons (pv 1) pa_nil)))))) (pss_one ps_never) pss_nil)
      (pss_one (ps_expr (pe_bm PySem.F.plainAttrs_list PySem.F.slot_list_append PySem.F.type_list_append mt_append (pe_fldK K (pv 0) rfl) (pa_cons (pe_meth (pe_meth0 (pv 0) (Tc_Mesh T) (Tm_Mesh_now T) c_Mesh_now.1 (hr.mono (by decide)) c_Mesh_now.2.1 .nil pass0) (Tc_Standing T) (Tm_Standing_with_name T) c_Standing_with_name.1 (hr.mono (by decide)) c_Standing_with_name.2.1 .nil pass0 (pa_cons (pv 1) pa_nil)) pa_nil))))), ?_⟩)
  · obtain ⟨x, pl, n, turn, Ss, D, G, rfl, _⟩ := h
    rfl
  · obtain ⟨x, pl, n, turn, Ss, D, G, rfl, M, hnm, hn, hlen, hl, q⟩ := h
    obtain ⟨dx, fs, i1, i2, i3, i4⟩ := M.ins
    have j1 := M.sub _ _ i1
    walk_at "jrd"
    refine ⟨n, rfl, hnm, fun H1 e1 => ?_⟩
    have M1 := M.same e1
    have j2 := M1.sub _ _ i1
    clear j1
    walk_at "jrd"
    refine ite_F rfl ?_
    walk_at "jrd"
    refine ⟨x, pl, turn, Ss, D, G, rfl, M1, fun a S => ?_⟩
    have S' := S.same M1.sub
    obtain ⟨dx2, fs2, k1, k2⟩ := S'.insx
    walk_at "jrd"
    refine ⟨a, n, D, rfl, S', ?_⟩
    rw [decide_eq_false hn]
    walk_at "jrd"
    refine ite_F rfl ?_
    obtain ⟨as, al, hpl, hasl, _, _⟩ := M1.last
    clear k1
    walk_at "jrd"
    refine ⟨x, pl, turn, Ss, D, G, rfl, M1, fun b Sb => ?_⟩
    have Sb' := Sb.same M1.sub
    obtain ⟨dx3, fs3, k1, k3⟩ := Sb'.insx
    walk_at "jrd"
    refine ⟨b, n, D, G, rfl, M1.sub, Sb, hn, hlen, fun a' H5 G5 ys e5 g5 hys S5 => ?_⟩
    have hpl5 := e5 _ _ hpl
    walk_at "jrd"
    have hm : as.map V.ref ++ [.ref al] = (as ++ [al]).map V.ref := by rw [List.map_append]; rfl
    rw [hm] at hpl hp
    have gg := (GrowG.trans (GrowG.refl M.sub) (fun _ _ h => h) ⟨fun _ _ h => h, M1.sub, fun _ _ h => h⟩ : GrowG G H G H1).trans e1 g5
    exact q H' G5 ys (fun b o h n => hf _ _ (e5 _ _ (e1 _ _ h)) n) gg.m hys (M1.push g5 hpl hf hp S5 (by simp; omega))
def sp_mdrop (K : PySem.W.Frag) : Sp := fun vs H Q _ => ∃ (x pl : Addr) (n : Str) (turn : Int) (Ss : List SD) (D : SD) (G : Hp), vs = [.ref x, .str n] ∧ MeshAt K G H x pl turn (Ss ++ [D]) ∧ n ∈ D.names ∧ Ss.length < 399 ∧
  ∀ (p : Addr) (H' G' : Hp), H p = none → Fr1 pl H H' → GrowM G H G' → MeshAt K G' H' x pl turn (Ss ++ [D] ++ [D.drop n]) → H' p = some (.lst (intsN (D.at n))) → Q (.ref p) H'
abbrev N_Mesh_drop_name : List Str := ["self", "name", "here"]
theorem sc_Mesh_drop_name : FnScope N_Mesh_drop_name ["self", "name"] (defScope s_Mesh_drop_name) := ⟨rfl, rfl, rfl, by decide +kernel, rfl, by decide +kernel, by decide +kernel⟩
theorem ok_Mesh_drop_name (T : Txt w K mg) : OkF P w K mg base 5 (mA K "Mesh" "drop_name") ["self", "name"] (sp_mdrop K) := by
  obtain ⟨fd_Mesh_look_names, c_Mesh_look_names⟩ := ok_Mesh_look_names (P := P) (base := base) T
  obtain ⟨fd_Mesh_now, c_Mesh_now⟩ := ok_Mesh_now (P := P) (base := base) T
  obtain ⟨fd_Standing_without_name, c_Standing_without_name⟩ := ok_Standing_without_name (P := P) (base := base) T
  obtain ⟨fd_Standing_numbers_at, c_Standing_numbers_at⟩ := ok_Standing_numbers_at (P := P) (base := base) T
  have cl_Mesh := Tc_Mesh T
  have cl_Standing := Tc_Standing T
  have na_Mesh_past := Tn_Mesh_past T
  refine okF (Td_Mesh_drop_name T) sc_Mesh_drop_name (fun _ _ _ _ _ _ us hl => match us, hl with | [_, _], _ => rfl) (fun vs H Q E h => ?_) (fun cdv A outer s H vs Q E hr h => have hu := hu_of hr; ⟨_, (pss_cons (ps_expr (pe_meth (pv 0) (Tc_Mesh T) (Tm_Mesh_look_names T) c_Mesh_look_names.1 (hr.mono (by decide)) c_Mesh_look_names.2.1 .nil pass0 (pa_cons (pe_lst (pa_cons (pv 1) pa_nil)) pa_nil)))
      (pss_cons (ps_set (i := 2) sc_Mesh_drop_name.nd rfl (by first | exact Or.inl rfl | exact Or.inr rfl) (pe_meth0 (pv 0) (Tc_Mesh T) (Tm_Mesh_now T) c_Mesh_now.1 (hr.mono (by decide)) c_Mesh_now.2.1 .nil pass0))
      (pss_cons (ps_expr (pe_bm PySem.F.plainAttrs_list PySem.F.slot_list_append PySem.F.type_list_append mt_append (pe_fldK K (pv 0) rfl) (pa_cons (pe_meth (pv 2) (Tc_Standing T) (Tm_Standing_without_name T) c_Standing_without_name.1 (hr.mono (by decide)) c_Standing_without_name.2.1 .nil pass0 (pa_cons (pv 1) pa_nil)) pa_nil)))
      (pss_one (ps_ret (pe_meth (pv 2) (Tc_Standing T) (Tm_Standing_numbers_at T) c_Standing_numbers_at.1 (hr.mono (by decide)) c_Standing_numbers_at.2.1 .nil pass0 (pa_cons (pv 1) pa_nil))))))), ?_⟩)
  · obtain ⟨x, pl, n, turn, Ss, D, G, rfl, _⟩ := h
    rfl
  · obtain ⟨x, pl, n, turn, Ss, D, G, rfl, M, hn, hl, q⟩ := h
    obtain ⟨dx, fs, i1, i2, i3, i4⟩ := M.ins
    have j1 := M.sub _ _ i1
    walk_at "jrd"
    have M1 := M.same he
    refine ⟨x, pl, p, turn, Ss, D, G, [n], rfl, M1, hp, by simp [hn], ?_⟩
    walk_at "jrd"
    refine ⟨x, pl, turn, Ss, D, G, rfl, M1, fun a S => ?_⟩
    have S' := S.same M1.sub
    obtain ⟨dx2, fs2, k1, k2⟩ := S'.insx
    obtain ⟨as, al, hpl, hasl, _, _⟩ := M1.last
    walk_at "jrd"
    refine ⟨a, n, D, G, rfl, M1.sub, S, fun a' H5 G5 e5 g5 S5 => ?_⟩
    have hpl5 := e5 _ _ hpl
    have e05 := he.trans e5
    have k5 := e5 _ _ k1
    have naP : a ≠ pl := by
      obtain ⟨dx4, fs4, l1, _⟩ := S.insx
      exact ne_of_none l1 M.gpl
    clear k1
    walk_at "jrd"
    have hm : as.map V.ref ++ [.ref al] = (as ++ [al]).map V.ref := by rw [List.map_append]; rfl
    rw [hm] at hpl hp_1
    have gg := (⟨fun _ _ h => h, M1.sub, fun _ _ h => h⟩ : GrowG G H G H').trans he g5
    have MM := M1.push g5 hpl hf hp_1 S5 (by simp; omega)
    refine ⟨a, n, D, rfl, (S.same g5.sub).same MM.sub, fun p7 H7 hn7 e7 h7 => ?_⟩
    have ff : Fr1 pl H H'_1 := fun b o h n => hf _ _ (e05 _ _ h) n
    have hp7 : H p7 = none := by
      refine ff.none (fun z => ?_) hn7
      rw [z, hp_1] at hn7; cases hn7
    exact q p7 H7 G5 hp7 (ff.upx e7) gg.m (MM.same e7) h7
end
section
variable {P : Program} {w : World} {K : PySem.W.Frag} {mg : Str → Option Value} {base : Heap}
theorem cutV_upto (xs : List V) (m : Nat) : cutV xs none (some (m : Int)) = xs.take m := by
  unfold cutV
  rw [HT.sIx_none, HT.sIx_nat, List.drop_zero, Nat.sub_zero]
  rcases Nat.le_total m xs.length with h | h
  · rw [Nat.min_eq_left h]
  · rw [Nat.min_eq_right h, List.take_of_length_le h, List.take_of_length_le (Nat.le_refl _)]
theorem cutV_from (xs : List V) (m : Nat) : cutV xs (some (m : Int)) none = xs.drop m := by
  unfold cutV
  rw [HT.sIx_none, HT.sIx_nat]
  rcases Nat.le_total m xs.length with h | h
  · rw [Nat.min_eq_left h, List.take_of_length_le (by rw [List.length_drop]; omega)]
  · rw [Nat.min_eq_right h, List.drop_of_length_le h, List.drop_of_length_le (Nat.le_refl _)]; simp
def sp_mesh_init (K : PySem.W.Frag) : Sp := fun vs H Q _ => ∃ (x l dx : Addr) (ns : List Str) (turn : Int) (G : Hp), vs = [.ref x, .ref l, .int turn] ∧ H x = some (.ins (gA K "Mesh") dx []) ∧ Same G H ∧ G x = none ∧ H l = some (.lst (ns.map V.str)) ∧ ns.Nodup ∧ (∀ n ∈ ns, IsNm n) ∧ ns.length < 64 ∧
  ∀ (H' G' : Hp) (pl : Addr) (ys : List Str), Fr1 x H H' → Same G G' → (∀ b, b ≠ x → H b ≠ none → G b = none → G' b = none) → ys.Perm ns → H pl = none → (∀ C d fs, H' x = some (.ins C d fs) → fs.length < 1000) → MeshAt K G' H' x pl turn [⟨ys, [], 0⟩] → Q .non H'
abbrev N_Mesh_init : List Str := ["self", "names", "turn"]
theorem sc_Mesh_init : FnScope N_Mesh_init ["self", "names", "turn"] (defScope s_Mesh_init) := ⟨rfl, rfl, rfl, by decide +kernel, rfl, by decide +kernel, by decide +kernel⟩
theorem ok_Mesh_init (T : Txt w K mg) : OkF P w K mg base 3 (mA K "Mesh" "__init__") ["self", "names", "turn"] (sp_mesh_init K) := by
  obtain ⟨fd_look_names, c_look_names⟩ := ok_look_names (P := P) (base := base) T
  obtain ⟨fd_Standing_init, c_Standing_init⟩ := ok_Standing_init (P := P) (base := base) T
  have cl_Mesh := Tc_Mesh T
  have na_Mesh_past := Tn_Mesh_past T
  have na_Mesh_turn := Tn_Mesh_turn T
  refine okF (Td_Mesh_init T) sc_Mesh_init (fun _ _ _ _ _ _ us hl => match us, hl with | [_, _, _], _ => rfl) (fun vs H Q E h => ?_) (fun cdv A outer s H vs Q E hr h => have hu := hu_of hr; ⟨_, (pss_cons (ps_fld (pv 0) (pv 2) rfl)
      (pss_cons (ps_expr (pe_call c_look_names.1 (hr.mono (by decide)) rfl (Tg_look_names_naming T) c_look_names.2.2 c_look_names.2.1 .nil pass0 (pa_cons (pv 1) pa_nil)))
      (pss_one (ps_fld (pv 0) (pe_lst (pa_cons (pe_make (Tk_Standing T) c_Standing_init.1 (hr.mono (by decide)) rfl (Tg_Standing T) c_Standing_init.2.1 .nil pass0 (pa_cons (pe_callB cr_sortedS (by rfl) (Tf_sorted T) (by decide +kernel) (pa_cons (pv 1) pa_nil)) (pa_cons pe_dnewK (pa_cons (pe_lst pa_nil) (pa_cons pe_int pa_nil))))) pa_nil)) rfl)))), ?_⟩)
  · obtain ⟨x, l, dx, ns, turn, G, rfl, _⟩ := h
    rfl
  · obtain ⟨x, l, dx, ns, turn, G, rfl, hx, eG, hGx, hl, nd, hn, hz, q⟩ := h
    have nlx : l ≠ x := ne_of hl hx (by intro z; cases z)
    walk_at "jrd"
    refine ⟨l, ns, rfl, hf _ _ hl nlx, nd, hn, by omega, fun H1 e1 => ?_⟩
    have hl1 := e1 _ _ (hf _ _ hl nlx)
    have hx1 := e1 _ _ hp
    have F1 : Fr1 x H H1 := hf.upx e1
    have eG1 : Same G H1 := Same.mut eG hGx F1
    clear hx hl hp hf e1
    walk_at "jrd"
    have e14 : Same H1 H'_3 := (he.trans he_1).trans he_2
    refine r_makeStd (names := ys) (rows := []) (hd := []) (coming := 0) eG1 e14 (by rw [gh_new hn_1]; exact he_2 _ _ (he_1 _ _ hp)) ⟨fun _ => 0, by rw [gh_new (he.free hn_2)]; exact he_2 _ _ hp_1, fun r hr => by cases hr⟩ (by rw [gh_new ((he.trans he_1).free hn_3)]; exact hp_2) (hy.nodup_iff.mpr nd) (by have := hy.length_eq; omega) (by simp) (fun k hk => by cases hk) fun a H5 G5 e5 g5 S5 _ => ?_
    have hx5 := e5 _ _ hx1
    have hG5x : G5 x = none := g5.non x (by rw [hx1]; simp) hGx
    clear hx1
    walk_at "jrd"
    have hpl5 : H5 p_3 = none := hn_4
    have nxp : p_3 ≠ x := (ne_of_none hx5 hn_4).symm
    have okD : (⟨ys, [], 0⟩ : SD).Ok := ⟨hy.nodup_iff.mpr nd, by show ys.length < 64; have := hy.length_eq; omega, hs, .nil, fun r hr => (by cases hr), fun r hr => (by cases hr), Nat.zero_le _⟩
    have sG : Same G5 (fun b => if b = x then H'_5 x else G5 b) := fun b o h => by
      have n : b ≠ x := ne_of_none h hG5x
      show (if b = x then _ else _) = _
      rw [if_neg n]; exact h
    have sH : Same (fun b => if b = x then H'_5 x else G5 b) H'_5 := fun b o h => by
      by_cases n : b = x
      · subst n; simpa using h
      · have h : (if b = x then H'_5 x else G5 b) = some o := h
        rw [if_neg n] at h
        exact hf _ _ (he_3 _ _ (g5.inn _ _ h)) n
    refine q H'_5 (fun b => if b = x then H'_5 x else G5 b) p_3 ys (fun b o h n => hf _ _ (he_3 _ _ (e5 _ _ (F1 _ _ h n))) n) (g5.sub.trans sG) (fun b n h g => ?_) hy (F1.none nxp (e5.free hpl5)) (fun C d fs hh => ?_) ⟨sH, ⟨dx, _, (if_pos rfl).trans hp_4, ?_, ?_, ?_⟩, ⟨[a], ?_, rfl, fun i b D hb hD => ?_⟩, ?_, by simp⟩
    · show (if b = x then _ else _) = _
      rw [if_neg n]
      exact g5.non b (fun z => by
        cases hh : H b with
        | none => exact h hh
        | some o => rw [F1 _ _ hh n] at z; cases z) g
    · rw [hp_4] at hh
      injection hh with hh
      injection hh with _ _ hh
      rw [← hh]
      (repeat (refine putF_lt ?_)); simp
    · walk_at "jnm"
    · walk_at "jlk"
    · walk_at "jlk"
    · exact hf _ _ hp_3 nxp
    · have hi : i = 0 := by have := (List.getElem?_eq_some_iff.mp hb).1; simp at this; omega
      subst hi
      have e1 : a = b := by simpa using hb
      have e2 : (⟨ys, [], 0⟩ : SD) = D := by simpa using hD
      subst e1 e2
      exact ⟨S5.same sG, okD⟩
    · show (if p_3 = x then _ else _) = _
      rw [if_neg nxp]
      exact g5.inn.free hn_4
def sp_mat (K : PySem.W.Frag) : Sp := fun vs H Q _ => ∃ (x pl : Addr) (m : Nat) (turn : Int) (Ss : List SD) (G : Hp), vs = [.ref x, .int (m : Nat)] ∧ MeshAt K G H x pl turn Ss ∧ m < Ss.length ∧
  ∀ (x2 pl2 : Addr) (H' G' : Hp), H x2 = none → Same H H' → GrowM G H G' → MeshAt K G' H' x2 pl2 turn (Ss.take (m + 1)) → Q (.ref x2) H'
abbrev N_Mesh_at : List Str := ["self", "moment", "other"]
theorem sc_Mesh_at : FnScope N_Mesh_at ["self", "moment"] (defScope s_Mesh_at) := ⟨rfl, rfl, rfl, by decide +kernel, rfl, by decide +kernel, by decide +kernel⟩
theorem ok_Mesh_at (T : Txt w K mg) : OkF P w K mg base 5 (mA K "Mesh" "at") ["self", "moment"] (sp_mat K) := by
  obtain ⟨fd_Mesh_look_moment, c_Mesh_look_moment⟩ := ok_Mesh_look_moment (P := P) (base := base) T
  obtain ⟨fd_Mesh_init, c_Mesh_init⟩ := ok_Mesh_init (P := P) (base := base) T
  have cl_Mesh := Tc_Mesh T
  have na_Mesh_past := Tn_Mesh_past T
  have na_Mesh_turn := Tn_Mesh_turn T
  refine okF (Td_Mesh_at T) sc_Mesh_at (fun _ _ _ _ _ _ us hl => match us, hl with | [_, _], _ => rfl) (fun vs H Q E h => ?_) (fun cdv A outer s H vs Q E hr h => have hu := hu_of hr; ⟨_, (pss_cons (ps_expr (pe_meth (pv 0) (Tc_Mesh T) (Tm_Mesh_look_moment T) c_Mesh_look_moment.1 (hr.mono (by decide)) c_Mesh_look_moment.2.1 .nil pass0 (pa_cons (pv 1) pa_nil)))
      (pss_cons (ps_set (i := 2) sc_Mesh_at.nd rfl (by first | exact Or.inl rfl | exact Or.inr rfl) (pe_make (Tk_Mesh T) c_Mesh_init.1 (hr.mono (by decide)) rfl (Tg_Mesh T) c_Mesh_init.2.1 .nil pass0 (pa_cons (pe_lst pa_nil) (pa_cons (pe_fldK K (pv 0) rfl) pa_nil))))
      (pss_cons (ps_fld (pv 2) (pe_slice (sl_listK K) (pe_fldK K (pv 0) rfl) po_none (po_some (pe_op op_add (pv 1) pe_int))) rfl)
      (pss_one (ps_ret (pv 2)))))), ?_⟩)
  · obtain ⟨x, pl, m, turn, Ss, G, rfl, _⟩ := h
    rfl
  · obtain ⟨x, pl, m, turn, Ss, G, rfl, M, hm, q⟩ := h
    obtain ⟨dx, fs, i1, i2, i3, i4⟩ := M.ins
    obtain ⟨as, hpl, hasl, hS⟩ := M.past
    have j1 := M.sub _ _ i1
    walk_at "jrd"
    refine ⟨x, pl, m, turn, Ss, G, rfl, M, hm, ?_⟩
    walk_at "jrd"
    refine r_make fun x2 dx2 H5 hn5 e5 hx2 => ?_
    have hnx2 : H x2 = none := he.free hn5
    have hG2 : G x2 = none := M.sub.free hnx2
    refine ⟨x2, p, dx2, [], turn, G, rfl, hx2, (M.sub.trans he).trans e5, hG2, e5 _ _ hp, .nil, by simp, by simp, fun H6 G6 pl6 ys f6 _ _ _ _ lfs M6 => ⟨rfl, ?_⟩⟩
    obtain ⟨dx6, fs6, b1, b2, b3, b4⟩ := M6.ins
    have hx6 := M6.sub _ _ b1
    have e06 : Same H H6 := Same.mut (he.trans e5) hnx2 f6
    have j6 := e06 _ _ j1
    have hpl6 := e06 _ _ hpl
    have lfs : fs6.length < 1000 := lfs _ _ _ hx6
    clear j1 hpl hp hx2
    walk_at "jrd"
    have e5' : Same H H'_2 := Same.mut (e06.trans he_1) hnx2 hf
    have sG : Same G (fun b => if b = x2 then H'_2 x2 else G b) := fun b o h => by
      have n : b ≠ x2 := ne_of_none h hG2
      show (if b = x2 then _ else _) = _
      rw [if_neg n]; exact h
    have sH : Same (fun b => if b = x2 then H'_2 x2 else G b) H'_2 := fun b o h => by
      by_cases n : b = x2
      · subst n; simpa using h
      · have h : (if b = x2 then H'_2 x2 else G b) = some o := h
        rw [if_neg n] at h
        exact e5' _ _ (M.sub _ _ h)
    have np1 : p_1 ≠ x2 := (ne_of_none hx6 hn_1).symm
    have hp1n : H p_1 = none := e06.free hn_1
    have ec : cutV (as.map V.ref) none (some ((m : Int) + 1)) = (as.take (m + 1)).map V.ref := by
      have := cutV_upto (as.map V.ref) (m + 1)
      rw [show (((m + 1 : Nat) : Int)) = (m : Int) + 1 by omega] at this
      rw [this, List.map_take]
    rw [ec] at hp
    refine q x2 p_1 H'_2 (fun b => if b = x2 then H'_2 x2 else G b) hnx2 e5' ⟨sG, fun b h g => ?_⟩ ⟨sH, ⟨dx6, _, (if_pos rfl).trans hp_1, b2.put (by decide +kernel), (putF_get_ne (by decide +kernel)).trans b3, putF_get_same⟩, ⟨as.take (m + 1), hf _ _ hp np1, by rw [List.length_take, List.length_take, hasl], fun i b D hb hD => ?_⟩, ?_, by rw [List.length_take]; have := M.len; omega⟩
    · have n : b ≠ x2 := fun z => h (z ▸ hnx2)
      show (if b = x2 then _ else _) = _
      rw [if_neg n]; exact g
    · rw [List.getElem?_take] at hb hD
      by_cases hi : i < m + 1
      · rw [if_pos hi] at hb hD
        exact (hS i b D hb hD).same sG
      · rw [if_neg hi] at hb; cases hb
    · show (if p_1 = x2 then _ else _) = _
      rw [if_neg np1]
      exact M.sub.free hp1n
/-! stretches of moments -/
def strStep (acc : List (Nat × Nat)) (m : Nat) (b : Bool) : List (Nat × Nat) :=
  if b = true then (match acc.getLast? with | some (a, z) => if z + 1 = m then acc.dropLast ++ [(a, m)] else acc ++ [(m, m)] | none => acc ++ [(m, m)]) else acc
def stretch (bs : List Bool) : List (Nat × Nat) := bs.zipIdx.foldl (fun acc q => strStep acc q.2 q.1) []
theorem stretch_snoc (bs : List Bool) (b : Bool) : stretch (bs ++ [b]) = strStep (stretch bs) bs.length b := by
  unfold stretch
  rw [List.zipIdx_append, List.foldl_append]
  simp
theorem strStep_len (acc : List (Nat × Nat)) (m : Nat) (b : Bool) : (strStep acc m b).length ≤ acc.length + 1 := by
  unfold strStep
  split
  · split
    · split <;> simp <;> omega
    · simp
  · omega
theorem strStep_nil (m : Nat) : strStep [] m true = [(m, m)] := rfl
theorem strStep_snoc (acc : List (Nat × Nat)) (a z m : Nat) : strStep (acc ++ [(a, z)]) m true = if z + 1 = m then acc ++ [(a, m)] else acc ++ [(a, z)] ++ [(m, m)] := by
  unfold strStep
  rw [if_pos rfl, List.getLast?_concat]
  dsimp only
  rw [List.dropLast_concat]
theorem ixN_last (n : Nat) : ixN (n + 1) (-1) = some n := by
  unfold ixN
  rw [if_neg (by decide), if_pos (by omega)]
  congr 1
  omega
theorem set_last {β : Type} (l : List β) (x y : β) : (l ++ [x]).set l.length y = l ++ [y] := by simp
def encT (p : Nat × Nat) : List V := [.int (p.1 : Nat), .int (p.2 : Nat)]
def togD (o p : Str) (D : SD) : Bool := decide (o ∈ D.names) && (decide (p ∈ D.names) && decide (D.lab o = D.lab p))
def sp_times (K : PySem.W.Frag) : Sp := fun vs H Q _ => ∃ (x pl : Addr) (o p : Str) (turn : Int) (Ss : List SD) (G : Hp), vs = [.ref x, .str o, .str p] ∧ MeshAt K G H x pl turn Ss ∧
  ∀ (q : Addr) (ws : List V) (H' : Hp), H q = none → Same H H' → H' q = some (.lst ws) → Tups H' encT ws (stretch (Ss.map (togD o p))) → Q (.ref q) H'
theorem Tups.dropLast {H : Hp} {β : Type} {enc : β → List V} {vs : List V} {xs : List β} {v : V} {x : β} (h : Tups H enc (vs ++ [v]) (xs ++ [x])) : Tups H enc vs xs := by
  obtain ⟨vs', t, e, h1, _⟩ := h.unsnoc
  obtain ⟨e1, _⟩ := List.append_inj' e rfl
  rw [e1]; exact h1
abbrev N_Mesh_times_together : List Str := ["self", "one", "other", "found", "moment", "here"]
theorem sc_Mesh_times_together : FnScope N_Mesh_times_together ["self", "one", "other"] (defScope s_Mesh_times_together) := ⟨rfl, rfl, rfl, by decide +kernel, rfl, by decide +kernel, by decide +kernel⟩
theorem ok_Mesh_times_together (T : Txt w K mg) : OkF P w K mg base 3 (mA K "Mesh" "times_together") ["self", "one", "other"] (sp_times K) := by
  obtain ⟨fd_Standing_ways_from, c_Standing_ways_from⟩ := ok_Standing_ways_from (P := P) (base := base) T
  obtain ⟨fd_Standing_has_name, c_Standing_has_name⟩ := ok_Standing_has_name (P := P) (base := base) T
  have cl_Mesh := Tc_Mesh T
  have cl_Standing := Tc_Standing T
  have na_Mesh_past := Tn_Mesh_past T
  refine okF (Td_Mesh_times_together T) sc_Mesh_times_together (fun _ _ _ _ _ _ us hl => match us, hl with | [_, _, _], _ => rfl) (fun vs H Q E h => ?_) (fun cdv A outer s H vs Q E hr h => have hu := hu_of hr; ⟨_, (pss_cons (ps_set (i := 3) sc_Mesh_times_together.nd rfl (by first | exact Or.inl rfl | exact Or.inr rfl) (pe_lst pa_nil))
      (pss_cons (ps_for PassesOwn.never rfl (pi_enum (by rfl) (Tf_enumerate T) (pa_cons (pe_fldK K (pv 0) rfl) pa_nil)) (pg_tupK K (n := 2) rfl (pgs_cons (pg_name (i := 4) sc_Mesh_times_together.nd rfl (by first | exact Or.inl rfl | exact Or.inr rfl)) (pgs_cons (pg_name (i := 5) sc_Mesh_times_together.nd rfl (by first | exact Or.inl rfl | exact Or.inr rfl)) pgs_nil)))
      (pss_one (ps_if (PW.pt (pw_and (pt_val (pe_meth (pv 5) (Tc_Standing T) (Tm_Standing_has_name T) c_Standing_has_name.1 (hr.mono (by decide)) c_Standing_has_name.2.1 .nil pass0 (pa_cons (pv 1) pa_nil))) (pw_and (pt_val (pe_meth (pv 5) (Tc_Standing T) (Tm_Standing_has_name T) c_Standing_has_name.1 (hr.mono (by decide)) c_Standing_has_name.2.1 .nil pass0 (pa_cons (pv 2) pa_nil))) (pw_and1 (pt_cmp (pc_din hu (pv 2) (pe_meth (pv 5) (Tc_Standing T) (Tm_Standing_ways_from T) c_Standing_ways_from.1 (hr.mono (by decide)) c_Standing_ways_from.2.1 .nil pass0 (pa_cons (pv 1) pa_nil)))))))) (pss_one (ps_if (PW.pt (pw_and (pt_cmpR op_gt (pe_callB (call_lenJ K) (by rfl) (Tf_len T) (by decide +kernel) (pa_cons (pv 3) pa_nil)) pe_int (nomark _)) (pw_and1 (pt_cmpR op_eq (pe_ix (ix_tupK K) (pe_ix (ix_listK K) (pv 3) (pe_un un_neg pe_int) (fun _ _ => rfl)) pe_int (fun _ _ => rfl)) (pe_op op_sub (pv 4) pe_int) (nomark _))))) (pss_one (ps_asg (pe_tup (pa_cons (pe_ix (ix_tupK K) (pe_ix (ix_listK K) (pv 3) (pe_un un_neg pe_int) (fun _ _ => rfl)) pe_int (fun _ _ => rfl)) (pa_cons (pv 4) pa_nil))) (pg_sub (pv 3) (pe_un un_neg pe_int) set_list))) (pss_one (ps_expr (pe_bm PySem.F.plainAttrs_list PySem.F.slot_list_append PySem.F.type_list_append mt_append (pv 3) (pa_cons (pe_tup (pa_cons (pv 4) (pa_cons (pv 4) pa_nil))) pa_nil)))))) pss_nil)))
      (pss_one (ps_ret (pv 3))))), ?_⟩)
  · obtain ⟨x, pl, o, p, turn, Ss, G, rfl, _⟩ := h
    rfl
  · obtain ⟨x, pl, o, p', turn, Ss, G, rfl, M, q⟩ := h
    obtain ⟨dx, fs, i1, i2, i3, i4⟩ := M.ins
    obtain ⟨as, hpl, hasl, hS⟩ := M.past
    have j1 := M.sub _ _ i1
    walk_at "jrd"
    have hpl0 := he _ _ hpl
    have eG0 : Same G H' := M.sub.trans he
    refine loop_walk walk_en (fun i σ H2 => Same H H2 ∧ (∃ v4 v5, σ = [some (.ref x), some (.str o), some (.str p'), some (.ref p), v4, v5]) ∧ ∃ ws, H2 p = some (.lst ws) ∧ Tups H2 encT ws (stretch ((Ss.take i).map (togD o p'))) ∧ ws.length ≤ i)
      ⟨he, ⟨_, _, rfl⟩, [], hp, Tups.nil, Nat.le_refl _⟩ (fun i σ H2 _ p => SqL.of (p.1 _ _ hpl)) ?_ ?_
    · clear hp hpl0 eG0
      rintro i y σ H2 H2' hi ⟨e2, ⟨v4, v5, rfl⟩, ws, hws, tws, hwl⟩ ⟨t, v, rfl, ht, eT, hT, hv⟩
      rw [List.getElem?_map, Option.map_eq_some_iff] at hv
      obtain ⟨a, ha, rfl⟩ := hv
      have hil : i < Ss.length := by rw [← hasl]; exact (List.getElem?_eq_some_iff.mp ha).1
      have hD : Ss[i]? = some Ss[i] := List.getElem?_eq_getElem hil
      have S := (hS i a Ss[i] ha hD).same (M.sub.trans (e2.trans eT))
      have et : (Ss.take (i + 1)).map (togD o p') = (Ss.take i).map (togD o p') ++ [togD o p' Ss[i]] := by rw [take_more hD, List.map_append]; rfl
      have ell : ((Ss.take i).map (togD o p')).length = i := by rw [List.length_map, List.length_take]; omega
      rw [et, stretch_snoc, ell]
      generalize Ss[i] = D at *
      have hws' := eT _ _ hws
      have tws' := tws.stay (Same.tups eT)
      have e2' := e2.trans eT
      clear eT hws tws e2
      obtain ⟨dx2, fs2, k1, k2⟩ := S.insx
      have few := M.len
      have nofin : ∀ (H5 : Hp) (σ5 : L2.St), togD o p' D = false → Same H2' H5 → σ5 = [some (.ref x), some (.str o), some (.str p'), some (.ref p), some (.int (i : Nat)), some (.ref a)] → Same H H5 ∧ (∃ v4 v5, σ5 = [some (.ref x), some (.str o), some (.str p'), some (.ref p), v4, v5]) ∧ ∃ ws, H5 p = some (.lst ws) ∧ Tups H5 encT ws (strStep (stretch ((Ss.take i).map (togD o p'))) i (togD o p' D)) ∧ ws.length ≤ i + 1 := by
        intro H5 σ5 ht e5 hσ
        rw [ht]
        exact ⟨e2'.trans e5, ⟨_, _, hσ⟩, ws, e5 _ _ hws', tws'.stay (Same.tups e5), by omega⟩
      walk_at "jrd"
      refine ⟨a, o, D, rfl, S, ?_⟩
      walk_at "jrd"
      refine ite_of (fun ho => ?_) (fun ho => ?_)
      · walk_at "jrd"
        refine ⟨a, p', D, rfl, S, ?_⟩
        walk_at "jrd"
        refine ite_of (fun hp => ?_) (fun hp => ?_)
        · walk_at "jrd"
          refine ⟨a, o, D, rfl, S, ho, fun p2 H3 L hn3 e3 ⟨wa, F1, F2⟩ g c => ?_⟩
          walk_at "jrd"
          refine r_dinS F1 ?_
          rw [valV_dmap_some]
          walk_at "jrd"
          refine ite_of (fun hm => ?_) (fun hm => ?_)
          · have hlab := (S.ok.reach g c).mp hm
            have htog : togD o p' D = true := by unfold togD; simp [ho, hp, hlab]
            rw [htog]
            have hws3 := e3 _ _ hws'
            have tws3 := tws'.stay (Same.tups e3)
            have hpH : H p = none := hn
            have e23 := e2'.trans e3
            clear F1 F2 hws' tws' k1
            refine w_ifK (fun H5 => H5 = H3 ∧ strStep (stretch ((Ss.take i).map (togD o p'))) i true = stretch ((Ss.take i).map (togD o p')) ++ [(i, i)]) ?_ ?_
            · rintro H5 ⟨rfl, hstep⟩
              rw [hstep]
              walk_at "jrd"
              have tt : TupS _ H'_2 := Fr1.tups hf (he_1 _ _ hws3) (by intro xs z; cases z)
              exact ⟨Same.mut (e23.trans he_1) hpH hf, ⟨_, _, rfl⟩, _, hp_2, Tups.snoc (x := (i, i)) ((tws3.stay (Same.tups he_1)).stay tt) (tt _ _ hp_1), by simp; omega⟩
            · intro els
              rcases nil_or_snoc (stretch ((Ss.take i).map (togD o p'))) with e0 | ⟨acc, ⟨a0, z0⟩, e0⟩
              · rw [e0] at tws3 els ⊢
                have : ws = [] := List.length_eq_zero_iff.mp tws3.1
                subst this
                walk_at "jrd"
                refine ite_F rfl ?_
                exact els H3 ⟨rfl, rfl⟩
              · rw [e0] at tws3 els ⊢
                obtain ⟨ws', t', rfl, tws4, ht'⟩ := tws3.unsnoc
                unfold encT at ht'
                walk_at "jrd"
                refine ite_T (by simp) ?_
                walk_at "jrd"
                rw [strStep_snoc] at els ⊢
                refine ite_of (fun hz => ?_) (fun hz => ?_)
                · have hz' : z0 + 1 = i := by omega
                  rw [if_pos hz']
                  walk_at "jrd"
                  refine j_setL (he_1 _ _ hws3) (by rw [List.length_append]; exact ixN_last _) fun H5 f5 h5 => ?_
                  rw [set_last] at h5
                  have tt : TupS _ H5 := Fr1.tups f5 (he_1 _ _ hws3) (by intro xs z; cases z)
                  exact ⟨Same.mut (e23.trans he_1) hpH f5, ⟨_, _, rfl⟩, _, h5, Tups.snoc (x := (a0, i)) ((tws4.stay (Same.tups he_1)).stay tt) (tt _ _ hp_1), by simp at hwl ⊢; omega⟩
                · have hz' : ¬ z0 + 1 = i := fun q => hz (by omega)
                  rw [if_neg hz'] at els ⊢
                  exact els H3 ⟨rfl, rfl⟩
          · refine w_next (nofin _ _ ?_ e3 rfl)
            have hlab : ¬ D.lab o = D.lab p' := fun z => hm ((S.ok.reach g c).mpr z)
            unfold togD; simp [hlab]
        · refine ite_F rfl (w_next (nofin _ _ ?_ (fun _ _ h => h) rfl))
          unfold togD; simp [hp]
      · refine ite_F rfl (w_next (nofin _ _ ?_ (fun _ _ h => h) rfl))
        unfold togD; simp [ho]
    · rintro σ H2 ⟨e2, ⟨v4, v5, rfl⟩, ws, hws, tws, hwl⟩
      rw [List.take_of_length_le (by rw [List.length_map, hasl]; exact Nat.le_refl _)] at tws
      walk_at "jrd"
      exact q p ws H2 hn e2 hws tws
end
section
variable {P : Program} {w : World} {K : PySem.W.Frag} {mg : Str → Option Value} {base : Heap}
/-! ### the law's own count of a mesh -/
def encQ (q : Str × Str) : List V := [.str q.1, .str q.2]
structure KOk (ns : List Str) (rows : List Row) : Prop where
  nd : ns.Nodup
  few : ns.length ≤ 1000
  fewR : rows.length ≤ 1000
  inn : ∀ r ∈ rows, r.2.1 ∈ ns ∧ r.2.2.1 ∈ ns
def ends (r : Row) : Str × Str := (r.2.1, r.2.2.1)
section
variable {K : PySem.W.Frag} {σ : L2.St} {H : Hp} {Q : VK}
/-- [row[1:3] for row in rows] -/
theorem lc_ends {a : Addr} {ws : List V} {rows : List Row} {j : Nat} {vs : List Nat} (h : H a = some (.lst ws)) (t : Tups H encN ws rows) (hz : rows.length ≤ 1000)
    (hw : ∀ v : V, wipe ((wipe σ vs).set j (some v)) vs = wipe σ vs ∧ ((wipe σ vs).set j (some v))[j]? = some (some v))
    (k : ∀ p H' ws', (hn : H p = none) → (he : Same H H') → (hp : H' p = some (.lst ws')) → Tups H' encQ ws' (rows.map ends) → Q (.ref p) H') :
    LcAt (Itl K a) (gName j) tYes (tSl (rSlA K) (tVar j) (tPart (tC (V.int 1))) (tPart (tC (V.int 3)))) vs σ Q H := by
  have hl := t.1
  refine lc_M [] walk_list (fun H' g => SqL.of (frM_nil g _ _ h)) (by omega) (by simp) (fun i acc H' => Tups H' encQ acc ((rows.take i).map ends)) Tups.nil (fun i acc H1 H2 p t m => p.stay t) ?_ ?_
  · rintro i y acc H1 H1' KY KN hi p1 f1 ⟨rfl, hy⟩ hacc hY hN
    obtain ⟨r, t', hr, rfl, ht⟩ := (t.stay (Same.tups (frM_nil f1))).2 i y hy
    refine ⟨(hw _).1, w_tyes (ite_T rfl ?_)⟩
    refine w_sl (w_var (hw _).2 (w_part (w_c (r_part (w_part (w_c (r_part ?_)))))))
    unfold encN at ht
    refine r_sl413 ht fun p H2 hn e2 h2 => hY (.ref p) H2 (Same.frM e2) ?_
    rw [take_more hr, List.map_append]
    exact (p1.stay (Same.tups e2)).snoc h2
  · rintro acc D' H' hD g hp p1 _
    rw [List.take_of_length_le (by omega)] at p1
    exact k D' H' acc hD (frM_nil g) hp p1
end
theorem tri_ends (rows : List Row) : (tri rows).map (·.2) = rows.map ends := by unfold tri; rw [List.map_map]; rfl
theorem lab_ends (rows : List Row) : (labsP ((rows.map ends).map id)).1 = (labs (tri rows)).1 := by
  rw [List.map_id, ← tri_ends]
  exact (hold_places (tri rows)).1
theorem hold_ends (rows : List Row) : holdOf (tri rows) = (labsP ((rows.map ends).map id)).2.filterMap fun p => (rows[p]?).map (·.1) := by
  rw [List.map_id, ← tri_ends, (hold_places (tri rows)).2]
  congr 1
  funext p
  unfold tri
  rw [List.getElem?_map, Option.map_map]
  rfl
theorem places_lt (es : List (Str × Str)) : ∀ p ∈ (labsP es).2, p < es.length := fun p hp => by
  have := (labs_sub (plc es)).subset hp
  rw [plc_fst] at this
  exact List.mem_range.mp this
theorem labs_arg {H : Hp} {ws : List V} {es : List (Str × Str)} (t : Tups H encQ ws es) : ∀ x : Str × Str, ∃ rest, encQ x = .str (id x).1 :: .str (id x).2 :: rest := fun x => ⟨[], rfl⟩
def sp_holding : Sp := fun vs H Q _ => ∃ (nl rl : Addr) (ns : List Str) (ws : List V) (rows : List Row), vs = [.ref nl, .ref rl] ∧ H nl = some (.lst (ns.map V.str)) ∧ H rl = some (.lst ws) ∧ Tups H encN ws rows ∧ KOk ns rows ∧
  ∀ (p : Addr) (H' : Hp), H p = none → Same H H' → H' p = some (.lst (intsN (holdOf (tri rows)))) → Q (.ref p) H'
abbrev N_law_holding : List Str := ["_law_names_here", "_law_rows", "_law_place", "_law_row"]
theorem sc_law_holding : FnScope N_law_holding ["_law_names_here", "_law_rows"] (defScope s_law_holding) := ⟨rfl, rfl, rfl, by decide +kernel, rfl, by decide +kernel, by decide +kernel⟩
theorem ok_law_holding (T : Txt w K mg) : OkF P w K mg base 2 (gA K "_law_holding") ["_law_names_here", "_law_rows"] sp_holding := by
  obtain ⟨fd_law_labels, c_law_labels⟩ := ok_law_labels (P := P) (base := base) T
  refine okF (Td_law_holding T) sc_law_holding (fun _ _ _ _ _ _ us hl => match us, hl with | [_, _], _ => rfl) (fun vs H Q E h => ?_) (fun cdv A outer s H vs Q E hr h => have hu := hu_of hr; ⟨_, (pss_one (ps_ret (pe_lc (own := [("_law_place", 2)]) (tt := tYes) rfl sc_law_holding.nd (pi_list (pe_ix (ix_tupK K) (pe_call c_law_labels.1 (hr.mono (by decide)) rfl (Tg_law_labels T) c_law_labels.2.2 c_law_labels.2.1 .nil pass0 (pa_cons (pv 0) (pa_cons (pe_lc (own := [("_law_row", 3)]) (tt := tYes) rfl sc_law_holding.nd (pi_list (pv 1)) (blkOk_by (N := N_law_holding) (sc := defScope s_law_holding) (by decide +kernel)) (fun _ _ _ _ _ => (pg_name (i := 3) sc_law_holding.nd rfl (by first | exact Or.inl rfl | exact Or.inr rfl))) (fun _ _ _ _ _ => pts_nil) (fun _ _ _ _ _ => (pe_slice (sl_tupK K) (pv 3) (po_some pe_int) (po_some pe_int)))) pa_nil))) pe_int (fun _ _ => rfl))) (blkOk_by (N := N_law_holding) (sc := defScope s_law_holding) (by decide +kernel)) (fun _ _ _ _ _ => (pg_name (i := 2) sc_law_holding.nd rfl (by first | exact Or.inl rfl | exact Or.inr rfl))) (fun _ _ _ _ _ => pts_nil) (fun _ _ _ _ _ => (pe_ix (ix_tupK K) (pe_ix (ix_listK K) (pv 1) (pv 2) (fun _ _ => rfl)) pe_int (fun _ _ => rfl)))))), ?_⟩)
  · obtain ⟨nl, rl, ns, ws, rows, rfl, _⟩ := h
    rfl
  · obtain ⟨nl, rl, ns, ws, rows, rfl, hnl, hrl, tr, ok, q⟩ := h
    have hlr := tr.1
    have fewR := ok.fewR
    walk_at "jrd"
    refine lc_ends hrl tr ok.fewR (fun v => ⟨rfl, rfl⟩) fun p H1 ws1 hn1 e1 h1 t1 => ?_
    walk_at "jrd"
    refine ⟨_, encQ, id, nl, p, ns, ws1, rows.map ends, rfl, e1 _ _ hnl, h1, t1, labs_arg t1, fun x hx => ?_, ok.nd, ok.few, by rw [List.length_map]; exact ok.fewR, fun p5 d5 l5 H5 e5 n5 _ _ h5p _ h5l => ?_⟩
    · obtain ⟨r, hr, rfl⟩ := List.mem_map.mp hx
      exact ok.inn r hr
    have e05 := e1.trans e5
    have hrl5 := e05 _ _ hrl
    have tr5 := tr.stay (Same.tups e05)
    have hpl : ((labsP ((rows.map ends).map id)).2).length ≤ 1000 := by
      have := (labs_sub (plc ((rows.map ends).map id))).length_le
      rw [plc_fst, List.length_range, List.length_map, List.length_map] at this
      show (labs _).2.length ≤ _
      omega
    have hlt : ∀ p ∈ (labsP ((rows.map ends).map id)).2, p < rows.length := fun p hp => by
      have := places_lt _ p hp
      rwa [List.length_map, List.length_map] at this
    rw [hold_ends] at q
    generalize (labsP ((rows.map ends).map id)).2 = pls at *
    walk_at "jrd"
    refine lc_M [] walk_list (fun H' f => SqL.of (frM_nil f _ _ h5l)) (by simp; omega) (by simp) (fun i acc H' => acc = intsN ((pls.take i).filterMap fun p => (rows[p]?).map (·.1))) rfl (fun i acc H1 H2 p t m => p) ?_ ?_
    · rintro i y acc H6 H6' KY KN hi rfl f6 ⟨rfl, hy⟩ hacc hY hN
      rw [List.getElem?_map, Option.map_eq_some_iff] at hy
      obtain ⟨j, hj, rfl⟩ := hy
      have hjl := hlt j (List.mem_of_getElem? hj)
      have hr : rows[j]? = some rows[j] := List.getElem?_eq_getElem hjl
      have e6 := frM_nil f6
      have hrl6 := e6 _ _ hrl5
      obtain ⟨tt, hv, ht⟩ := (tr5.stay (Same.tups e6)).at hr
      rw [take_more hj, List.filterMap_append] at hY
      unfold intsN at hY
      rw [List.map_append] at hY
      generalize rows[j] = r at *
      unfold encN at ht
      clear f6 e6 hrl5 hrl
      walk_at "jrd"
      refine ⟨rfl, ?_⟩
      walk_at "jrd"
      refine ite_T rfl ?_
      walk_at "jrd"
      exact hY _ _ (FrM.refl _ _) (by simp [hr])
    · rintro acc D' H6 hD f hp rfl _
      rw [List.length_map, List.take_length] at hp
      exact q D' H6 (e05.free hD) (e05.trans (frM_nil f)) hp
/-- a moment as the law keeps it -/
def KeptAt (H : Hp) (t : Addr) (ns : List Str) (rows : List Row) : Prop := ∃ (nl rl : Addr) (ws : List V), H t = some (.tup [.ref nl, .ref rl]) ∧ H nl = some (.lst (ns.map V.str)) ∧ H rl = some (.lst ws) ∧ Tups H encN ws rows
theorem KeptAt.same {H H' : Hp} {t : Addr} {ns : List Str} {rows : List Row} (h : KeptAt H t ns rows) (e : Same H H') : KeptAt H' t ns rows := by
  obtain ⟨nl, rl, ws, h1, h2, h3, h4⟩ := h
  exact ⟨nl, rl, ws, e _ _ h1, e _ _ h2, e _ _ h3, h4.stay (Same.tups e)⟩
def sp_moment_right (K : PySem.W.Frag) : Sp := fun vs H Q _ => ∃ (x pl kt : Addr) (m : Nat) (turn : Int) (Ss : List SD) (D : SD) (G : Hp) (ns : List Str), vs = [.ref x, .int (m : Nat), .ref kt] ∧ MeshAt K G H x pl turn Ss ∧ Ss[m]? = some D ∧ KeptAt H kt ns D.rows ∧ ns.Perm D.names ∧ (∀ n ∈ D.names, IsNm n) ∧ ∀ H', Same H H' → Q (.bl true) H'
theorem fl_strs' {l : List Str} (h : ∀ n ∈ l, IsNm n) : ∀ v ∈ l.map V.str, flV v = true := fun v hv => by
  obtain ⟨n, hn, rfl⟩ := List.mem_map.mp hv
  exact (h n hn).ok
theorem fl_intsN (l : List Nat) : ∀ v ∈ intsN l, flV v = true := fun v hv => by
  obtain ⟨n, _, rfl⟩ := List.mem_map.mp hv
  rfl
theorem fl_encN {ns : List Str} {rows : List Row} (h : ∀ r ∈ rows, r.2.1 ∈ ns ∧ r.2.2.1 ∈ ns) (hn : ∀ n ∈ ns, IsNm n) : ∀ r ∈ rows, ∀ v ∈ encN r, flV v = true := by
  intro r hr v hv
  simp only [encN, List.mem_cons, List.not_mem_nil, or_false] at hv
  rcases hv with rfl | rfl | rfl | rfl
  · rfl
  · exact (hn _ (h r hr).1).ok
  · exact (hn _ (h r hr).2).ok
  · rfl
abbrev N_law_moment_right : List Str := ["_law_mesh", "_law_moment", "_law_kept", "_law_names_here", "_law_rows", "_law_there"]
theorem sc_law_moment_right : FnScope N_law_moment_right ["_law_mesh", "_law_moment", "_law_kept"] (defScope s_law_moment_right) := ⟨rfl, rfl, rfl, by decide +kernel, rfl, by decide +kernel, by decide +kernel⟩
theorem ok_law_moment_right (T : Txt w K mg) : OkF P w K mg base 6 (gA K "_law_moment_right") ["_law_mesh", "_law_moment", "_law_kept"] (sp_moment_right K) := by
  obtain ⟨fd_Mesh_at, c_Mesh_at⟩ := ok_Mesh_at (P := P) (base := base) T
  obtain ⟨fd_Mesh_moment, c_Mesh_moment⟩ := ok_Mesh_moment (P := P) (base := base) T
  obtain ⟨fd_Mesh_standing, c_Mesh_standing⟩ := ok_Mesh_standing (P := P) (base := base) T
  obtain ⟨fd_Mesh_names_now, c_Mesh_names_now⟩ := ok_Mesh_names_now (P := P) (base := base) T
  obtain ⟨fd_Mesh_holding, c_Mesh_holding⟩ := ok_Mesh_holding (P := P) (base := base) T
  obtain ⟨fd_law_holding, c_law_holding⟩ := ok_law_holding (P := P) (base := base) T
  have cl_Mesh := Tc_Mesh T
  refine okF (Td_law_moment_right T) sc_law_moment_right (fun _ _ _ _ _ _ us hl => match us, hl with | [_, _, _], _ => rfl) (fun vs H Q E h => ?_) (fun cdv A outer s H vs Q E hr h => have hu := hu_of hr; ⟨_, (pss_cons (ps_asg (pv 2) (pg_tupK K (n := 2) rfl (pgs_cons (pg_name (i := 3) sc_law_moment_right.nd rfl (by first | exact Or.inl rfl | exact Or.inr rfl)) (pgs_cons (pg_name (i := 4) sc_law_moment_right.nd rfl (by first | exact Or.inl rfl | exact Or.inr rfl)) pgs_nil))))
      (pss_cons (ps_set (i := 5) sc_law_moment_right.nd rfl (by first | exact Or.inl rfl | exact Or.inr rfl) (pe_meth (pv 0) (Tc_Mesh T) (Tm_Mesh_at T) c_Mesh_at.1 (hr.mono (by decide)) c_Mesh_at.2.1 .nil pass0 (pa_cons (pv 1) pa_nil)))
      (pss_cons (ps_if (PW.pt (pw_or (pt_cmpR (op_neDK K hr.units) (pe_meth0 (pv 5) (Tc_Mesh T) (Tm_Mesh_names_now T) c_Mesh_names_now.1 (hr.mono (by decide)) c_Mesh_names_now.2.1 .nil pass0) (pe_callB cr_sortedS (by rfl) (Tf_sorted T) (by decide +kernel) (pa_cons (pv 3) pa_nil)) (nomark _)) (pw_or (pt_cmpR (op_neDK K hr.units) (pe_meth0 (pv 5) (Tc_Mesh T) (Tm_Mesh_standing T) c_Mesh_standing.1 (hr.mono (by decide)) c_Mesh_standing.2.1 .nil pass0) (pv 4) (nomark _)) (pw_or1 (pt_cmpR op_ne (pe_meth0 (pv 5) (Tc_Mesh T) (Tm_Mesh_moment T) c_Mesh_moment.1 (hr.mono (by decide)) c_Mesh_moment.2.1 .nil pass0) (pv 1) (nomark _)))))) (pss_one (ps_ret pe_bl)) pss_nil)
      (pss_one (ps_ret (pe_cmpR (op_eqDK K hr.units) (pe_meth0 (pv 5) (Tc_Mesh T) (Tm_Mesh_holding T) c_Mesh_holding.1 (hr.mono (by decide)) c_Mesh_holding.2.1 .nil pass0) (pe_call c_law_holding.1 (hr.mono (by decide)) rfl (Tg_law_holding T) c_law_holding.2.2 c_law_holding.2.1 .nil pass0 (pa_cons (pv 3) (pa_cons (pv 4) pa_nil))) (nomark _))))))), ?_⟩)
  · obtain ⟨x, pl, kt, m, turn, Ss, D, G, ns, rfl, _⟩ := h
    rfl
  · obtain ⟨x, pl, kt, m, turn, Ss, D, G, ns, rfl, M, hD, ⟨nl, rl, ws, hkt, hnl, hrl, tr⟩, hperm, hnm, q⟩ := h
    obtain ⟨dx, fs, i1, i2, _, _⟩ := M.ins
    have j1 := M.sub _ _ i1
    have hml := (List.getElem?_eq_some_iff.mp hD).1
    have ok : D.Ok := by
      obtain ⟨as, _, h2, h3⟩ := M.past
      exact (h3 m (as[m]'(by omega)) D (List.getElem?_eq_getElem _) hD).ok
    walk_at "jrd"
    refine ⟨x, pl, m, turn, Ss, G, rfl, M, hml, fun x2 pl2 H1 G1 hn1 e1 g1 M1 => ?_⟩
    rw [take_more hD] at M1
    obtain ⟨dx2, fs2, a1, a2, _, _⟩ := M1.ins
    have a3 := M1.sub _ _ a1
    walk_at "jrd"
    refine ⟨x2, pl2, turn, _, D, G1, rfl, M1, fun p2 H2 hn2 e2 h2 => ?_⟩
    have hnl2 := e2 _ _ (e1 _ _ hnl)
    have hlen : ns.length < 64 := by rw [hperm.length_eq]; exact ok.few
    have flN := fl_strs' hnm
    clear j1
    walk_at "jrd"
    have hys : ys = D.names := sorted_uniq hs ok.srt (hy.trans hperm)
    subst hys
    refine r_neSame (dp_lst (he _ _ h2) flN) (dp_lst hp flN) (ly_lst flN) (by decide) ?_
    walk_at "jrd"
    refine ite_F rfl ?_
    have e3 := (e1.trans e2).trans he
    have M3 := (M1.same e2).same he
    have a33 := M3.sub _ _ a1
    clear a3
    walk_at "jrd"
    refine ⟨x2, pl2, turn, _, D, G1, rfl, M3, fun p4 H4 ws4 hn4 e4 h4 t4 => ?_⟩
    have flR := fl_encN ok.inn hnm
    have e04 := e3.trans e4
    walk_at "jrd"
    refine r_neSame (dp_tups h4 t4 flR) (dp_tups (e04 _ _ hrl) (tr.stay (Same.tups e04)) flR) (ly_tups flR) (by decide) ?_
    walk_at "jrd"
    refine ite_F rfl ?_
    have M4 := M3.same e4
    have a44 := M4.sub _ _ a1
    clear a33
    walk_at "jrd"
    refine ⟨x2, pl2, turn, _, G1, rfl, M4, ?_⟩
    walk_at "jrd"
    refine ite_F (by simp; omega) ?_
    walk_at "jrd"
    refine ⟨x2, pl2, turn, _, D, G1, rfl, M4, fun p5 H5 hn5 e5 h5 => ?_⟩
    have e05 := e04.trans e5
    walk_at "jrd"
    refine ⟨nl, rl, ns, ws, D.rows, rfl, e05 _ _ hnl, e05 _ _ hrl, tr.stay (Same.tups e05), ⟨hperm.nodup_iff.mpr ok.nd, by omega, by have := ok.len; omega, fun r hr => ⟨hperm.mem_iff.mpr (ok.inn r hr).1, hperm.mem_iff.mpr (ok.inn r hr).2⟩⟩, fun p6 H6 hn6 e6 h6 => ?_⟩
    walk_at "jrd"
    have flI := fl_intsN D.held
    exact r_eqSame (dp_lst (e6 _ _ h5) flI) (dp_lst h6 flI) (ly_lst flI) (by decide) (q _ (e05.trans e6))
end
section
variable {P : Program} {w : World} {K : PySem.W.Frag} {mg : Str → Option Value} {base : Heap}
def togK (o p : Str) (k : List Str × List Row) : Bool := decide (o ∈ k.1) && (decide (p ∈ k.1) && decide ((labs (tri k.2)).1 o = (labs (tri k.2)).1 p))
theorem and_no {a b c : Bool} (h : (a && b) = false) : (a && (b && c)) = false := by cases a <;> cases b <;> first | rfl | cases h
theorem togK_no {o p : Str} {ns : List Str} {rows : List Row} (h : (decide (o ∈ ns) && decide (p ∈ ns)) = false) : togK o p (ns, rows) = false := and_no h
theorem togK_yes {o p : Str} {ns : List Str} {rows : List Row} (h1 : o ∈ ns) (h2 : p ∈ ns) : togK o p (ns, rows) = decide ((labs (tri rows)).1 o = (labs (tri rows)).1 p) := by
  have h1 : decide (o ∈ (ns, rows).1) = true := decide_eq_true h1
  have h2 : decide (p ∈ (ns, rows).1) = true := decide_eq_true h2
  unfold togK
  rw [h1, h2, Bool.true_and, Bool.true_and]
def LogAt (H : Hp) (vs : List V) (Ks : List (List Str × List Row)) : Prop := vs.length = Ks.length ∧ ∀ (i : Nat) (v : V) (k : List Str × List Row), vs[i]? = some v → Ks[i]? = some k → ∃ t, v = .ref t ∧ KeptAt H t k.1 k.2
def sp_ltimes : Sp := fun vs H Q _ => ∃ (ll : Addr) (o p : Str) (ls : List V) (Ks : List (List Str × List Row)), vs = [.ref ll, .str o, .str p] ∧ H ll = some (.lst ls) ∧ LogAt H ls Ks ∧ (∀ k ∈ Ks, KOk k.1 k.2) ∧ Ks.length ≤ 400 ∧
  ∀ (q : Addr) (ws : List V) (H' : Hp), H q = none → Same H H' → H' q = some (.lst ws) → Tups H' encT ws (stretch (Ks.map (togK o p))) → Q (.ref q) H'
abbrev N_law_times : List Str := ["_law_log", "_law_one", "_law_other", "_law_found", "_law_moment", "_law_names_here", "_law_rows", "_law_together", "_law_labels_here", "_law_row"]
theorem sc_law_times : FnScope N_law_times ["_law_log", "_law_one", "_law_other"] (defScope s_law_times) := ⟨rfl, rfl, rfl, by decide +kernel, rfl, by decide +kernel, by decide +kernel⟩
theorem ok_law_times (T : Txt w K mg) : OkF P w K mg base 2 (gA K "_law_times") ["_law_log", "_law_one", "_law_other"] sp_ltimes := by
  obtain ⟨fd_law_labels, c_law_labels⟩ := ok_law_labels (P := P) (base := base) T
  refine okF (Td_law_times T) sc_law_times (fun _ _ _ _ _ _ us hl => match us, hl with | [_, _, _], _ => rfl) (fun vs H Q E h => ?_) (fun cdv A outer s H vs Q E hr h => have hu := hu_of hr; ⟨_, (pss_cons (ps_set (i := 3) sc_law_times.nd rfl (by first | exact Or.inl rfl | exact Or.inr rfl) (pe_lst pa_nil))
      (pss_cons (ps_for PassesOwn.never rfl (pi_enum (by rfl) (Tf_enumerate T) (pa_cons (pv 0) pa_nil)) (pg_tupK K (n := 2) rfl (pgs_cons (pg_name (i := 4) sc_law_times.nd rfl (by first | exact Or.inl rfl | exact Or.inr rfl)) (pgs_cons (pg_tupK K (n := 2) rfl (pgs_cons (pg_name (i := 5) sc_law_times.nd rfl (by first | exact Or.inl rfl | exact Or.inr rfl)) (pgs_cons (pg_name (i := 6) sc_law_times.nd rfl (by first | exact Or.inl rfl | exact Or.inr rfl)) pgs_nil))) pgs_nil)))
      (pss_cons (ps_set (i := 7) sc_law_times.nd rfl (by first | exact Or.inl rfl | exact Or.inr rfl) (pe_and (pe_cmpR (op_inK K) (pv 1) (pv 5) (by rfl)) (pe_one (pe_cmpR (op_inK K) (pv 2) (pv 5) (by rfl)))))
      (pss_cons (ps_if (pt_val (pv 7)) (pss_cons (ps_set (i := 8) sc_law_times.nd rfl (by first | exact Or.inl rfl | exact Or.inr rfl) (pe_ix (ix_tupK K) (pe_call c_law_labels.1 (hr.mono (by decide)) rfl (Tg_law_labels T) c_law_labels.2.2 c_law_labels.2.1 .nil pass0 (pa_cons (pv 5) (pa_cons (pe_lc (own := [("_law_row", 9)]) (tt := tYes) rfl sc_law_times.nd (pi_list (pv 6)) (blkOk_by (N := N_law_times) (sc := defScope s_law_times) (by decide +kernel)) (fun _ _ _ _ _ => (pg_name (i := 9) sc_law_times.nd rfl (by first | exact Or.inl rfl | exact Or.inr rfl))) (fun _ _ _ _ _ => pts_nil) (fun _ _ _ _ _ => (pe_slice (sl_tupK K) (pv 9) (po_some pe_int) (po_some pe_int)))) pa_nil))) pe_int (fun _ _ => rfl)))
      (pss_one (ps_set (i := 7) sc_law_times.nd rfl (by first | exact Or.inl rfl | exact Or.inr rfl) (pe_cmpR op_eq (pe_dget hu (pv 8) (pv 1) (fun _ _ => rfl)) (pe_dget hu (pv 8) (pv 2) (fun _ _ => rfl)) (nomark _))))) pss_nil)
      (pss_one (ps_if (PW.pt (pw_and (pt_val (pv 7)) (pw_and (pt_cmpR (op_neDK K hr.units) (pv 3) (pe_lst pa_nil) (nomark _)) (pw_and1 (pt_cmpR op_eq (pe_ix (ix_tupK K) (pe_ix (ix_listK K) (pv 3) (pe_un un_neg pe_int) (fun _ _ => rfl)) pe_int (fun _ _ => rfl)) (pe_op op_sub (pv 4) pe_int) (nomark _)))))) (pss_one (ps_asg (pe_tup (pa_cons (pe_ix (ix_tupK K) (pe_ix (ix_listK K) (pv 3) (pe_un un_neg pe_int) (fun _ _ => rfl)) pe_int (fun _ _ => rfl)) (pa_cons (pv 4) pa_nil))) (pg_sub (pv 3) (pe_un un_neg pe_int) set_list))) (pss_one (ps_if (pt_val (pv 7)) (pss_one (ps_expr (pe_bm PySem.F.plainAttrs_list PySem.F.slot_list_append PySem.F.type_list_append mt_append (pv 3) (pa_cons (pe_tup (pa_cons (pv 4) (pa_cons (pv 4) pa_nil))) pa_nil)))) pss_nil)))))))
      (pss_one (ps_ret (pv 3))))), ?_⟩)
  · obtain ⟨ll, o, p, ls, Ks, rfl, _⟩ := h
    rfl
  · obtain ⟨ll, o, p', ls, Ks, rfl, hll, ⟨hlen, hlog⟩, hok, few, q⟩ := h
    walk_at "jrd"
    refine loop_walk walk_en (fun i σ H2 => Same H H2 ∧ (∃ v4 v5 v6 v7 v8 v9, σ = [some (.ref ll), some (.str o), some (.str p'), some (.ref p), v4, v5, v6, v7, v8, v9]) ∧ ∃ ws, H2 p = some (.lst ws) ∧ Tups H2 encT ws (stretch ((Ks.take i).map (togK o p'))) ∧ ws.length ≤ i)
      ⟨he, ⟨_, _, _, _, _, _, rfl⟩, [], hp, Tups.nil, Nat.le_refl _⟩ (fun i σ H2 _ p => SqL.of (p.1 _ _ hll)) ?_ ?_
    · clear hp he
      rintro i y σ H2 H2' hi ⟨e2, ⟨v4, v5, v6, v7, v8, v9, rfl⟩, ws, hws, tws, hwl⟩ ⟨t, v, rfl, ht, eT, hT, hv⟩
      have hil : i < Ks.length := by rw [← hlen]; exact (List.getElem?_eq_some_iff.mp hv).1
      have hK : Ks[i]? = some Ks[i] := List.getElem?_eq_getElem hil
      obtain ⟨kt, rfl, hkept⟩ := hlog i v Ks[i] hv hK
      have ok := hok Ks[i] (List.getElem_mem hil)
      have et : (Ks.take (i + 1)).map (togK o p') = (Ks.take i).map (togK o p') ++ [togK o p' Ks[i]] := by rw [take_more hK, List.map_append]; rfl
      have ell : ((Ks.take i).map (togK o p')).length = i := by rw [List.length_map, List.length_take]; omega
      rw [et, stretch_snoc, ell]
      obtain ⟨nl, rl, wr, k1, k2, k3, k4⟩ := hkept.same (e2.trans eT)
      generalize Ks[i] = k at *
      obtain ⟨ns, rows⟩ := k
      have hws' := eT _ _ hws
      have tws' := tws.stay (Same.tups eT)
      have e2' := e2.trans eT
      clear eT hws tws e2
      have k2 : H2' nl = some (.lst (ns.map V.str)) := k2
      have k4 : Tups H2' encN wr rows := k4
      have ok : KOk ns rows := ok
      have hpH : H p = none := hn
      refine w_gtup (r_unp hT rfl (w_gcons (w_gname (w_gcons (w_gtup (r_unp k1 rfl (w_gcons (w_gname (w_gcons (w_gname (w_gnil (w_gnil ?_))))))))))))
      refine w_seqK (fun σ H5 => (∃ u8 u9, σ = [some (.ref ll), some (.str o), some (.str p'), some (.ref p), some (.int (i : Nat)), some (.ref nl), some (.ref rl), some (.bl (decide (o ∈ ns) && decide (p' ∈ ns))), u8, u9]) ∧ Same H2' H5) ?_ ?_
      · rintro σ H5 ⟨⟨u8, u9, rfl⟩, e5⟩
        refine w_seqK (fun σ H6 => (∃ b u8 u9, b = togK o p' (ns, rows) ∧ σ = [some (.ref ll), some (.str o), some (.str p'), some (.ref p), some (.int (i : Nat)), some (.ref nl), some (.ref rl), some (.bl b), u8, u9]) ∧ Same H5 H6) ?_ ?_
        · rintro σ H6 ⟨⟨bb, w8, w9, hbb, rfl⟩, e6⟩
          rw [hbb]
          have e56 := e5.trans e6
          have hws6 := e56 _ _ hws'
          have tws6 := tws'.stay (Same.tups e56)
          have e26 := e2'.trans e56
          clear hws' tws' e6 e5 k1 k2 k3 k4 hT
          cases hb : togK o p' (ns, rows) with
          | false =>
            walk_at "jrd"
            refine ite_F rfl ?_
            walk_at "jrd"
            refine ite_F rfl ?_
            walk_at "jrd"
            exact ⟨e26, ⟨_, _, _, _, _, _, rfl⟩, ws, hws6, tws6, by omega⟩
          | true =>
            have lws := tws6.1
            rcases nil_or_snoc (stretch ((Ks.take i).map (togK o p'))) with e0 | ⟨acc, ⟨a0, z0⟩, e0⟩
            · rw [e0] at tws6 ⊢
              have : ws = [] := List.length_eq_zero_iff.mp tws6.1
              subst this
              walk_at "jrd"
              refine ite_T rfl ?_
              walk_at "jrd"
              refine r_neNil (ds := []) (n := 1) (dp_nil (he _ _ hws6)) ⟨rfl, by decide⟩ (by decide) hp ?_
              walk_at "jrd"
              refine ite_F rfl ?_
              refine ite_F rfl ?_
              walk_at "jrd"
              refine ite_T rfl ?_
              walk_at "jrd"
              have tt : TupS _ H'_3 := Fr1.tups hf (he_1 _ _ (he _ _ hws6)) (by intro xs z; cases z)
              exact ⟨Same.mut ((e26.trans he).trans he_1) hpH hf, ⟨_, _, _, _, _, _, rfl⟩, _, hp_2, Tups.snoc (x := (i, i)) (Tups.nil) (tt _ _ hp_1), by simp⟩
            · rw [e0] at tws6 ⊢
              obtain ⟨ws', t', rfl, tws4, ht'⟩ := tws6.unsnoc
              have flT : ∀ x ∈ acc ++ [(a0, z0)], ∀ v ∈ encT x, flV v = true := fun x _ v hv => by
                simp only [encT, List.mem_cons, List.not_mem_nil, or_false] at hv
                rcases hv with rfl | rfl <;> rfl
              have ht'' := ht'
              unfold encT at ht'
              walk_at "jrd"
              refine ite_T rfl ?_
              walk_at "jrd"
              refine r_neNil (dp_tups (he _ _ hws6) (tws6.stay (Same.tups he)) flT) (ly_tups flT) (by decide) hp ?_
              walk_at "jrd"
              refine ite_T (by simp) ?_
              walk_at "jrd"
              rw [strStep_snoc]
              refine ite_of (fun hz => ?_) (fun hz => ?_)
              · have hz' : z0 + 1 = i := by omega
                rw [if_pos hz']
                walk_at "jrd"
                have s2 := (e26.trans he).trans he_1
                refine j_setL (he_1 _ _ (he _ _ hws6)) (by rw [List.length_append]; exact ixN_last _) fun H7 f7 h7 => ?_
                rw [set_last] at h7
                have tt : TupS _ H7 := Fr1.tups f7 (he_1 _ _ (he _ _ hws6)) (by intro xs z; cases z)
                exact ⟨Same.mut s2 hpH f7, ⟨_, _, _, _, _, _, rfl⟩, _, h7, Tups.snoc (x := (a0, i)) (((tws4.stay (Same.tups he)).stay (Same.tups he_1)).stay tt) (tt _ _ hp_1), by simp at hwl ⊢; omega⟩
              · have hz' : ¬ z0 + 1 = i := fun q => hz (by omega)
                rw [if_neg hz']
                walk_at "jrd"
                refine ite_T rfl ?_
                walk_at "jrd"
                have s2 := (e26.trans he).trans he_1
                have tt : TupS _ H'_3 := Fr1.tups hf (he_1 _ _ (he _ _ hws6)) (by intro xs z; cases z)
                exact ⟨Same.mut s2 hpH hf, ⟨_, _, _, _, _, _, rfl⟩, _, hp_2, Tups.snoc (x := (i, i)) (((tws6.stay (Same.tups he)).stay (Same.tups he_1)).stay tt) (tt _ _ hp_1), by simp at hwl ⊢; omega⟩
        · intro key
          have k2' := e5 _ _ k2
          have k3' := e5 _ _ k3
          have k4' := k4.stay (Same.tups e5)
          clear k1 k2 k3 k4 hT hws' tws' e2'
          by_cases hb : (decide (o ∈ ns) && decide (p' ∈ ns)) = true
          · have ho : o ∈ ns := by simp at hb; exact hb.1
            have hp' : p' ∈ ns := by simp at hb; exact hb.2
            rw [hb]
            walk_at "jrd"
            refine ite_T rfl ?_
            walk_at "jrd"
            refine lc_ends k3' k4' ok.fewR (fun v => ⟨rfl, rfl⟩) fun p7 H7 ws7 hn7 e7 h7 t7 => ?_
            walk_at "jrd"
            refine ⟨_, encQ, id, nl, p7, ns, ws7, rows.map ends, rfl, e7 _ _ k2', h7, t7, labs_arg t7, fun x hx => ?_, ok.nd, ok.few, by rw [List.length_map]; exact ok.fewR, fun p8 d8 l8 H8 e8 _ _ _ h8p h8d _ => ?_⟩
            · obtain ⟨r, hr, rfl⟩ := List.mem_map.mp hx
              exact ok.inn r hr
            rw [lab_ends] at h8d
            walk_at "jrd"
            have et' : togK o p' (ns, rows) = decide ((labs (tri rows)).1 o = (labs (tri rows)).1 p') := togK_yes ho hp'
            exact key _ _ ⟨⟨_, _, _, et'.symm, rfl⟩, e7.trans e8⟩
          · have hb' : (decide (o ∈ ns) && decide (p' ∈ ns)) = false := by simpa using hb
            have et' : togK o p' (ns, rows) = false := togK_no hb'
            rw [hb']
            walk_at "jrd"
            refine ite_F rfl ?_
            walk_at "jrd"
            exact key _ _ ⟨⟨_, _, _, et'.symm, rfl⟩, fun _ _ h => h⟩
      · intro key
        walk_at "jrd"
        refine r_inL k2 rfl (fl_strs _) ?_
        rw [inV_strs]
        walk_at "jrd"
        refine ite_of (fun ho => ?_) (fun ho => ?_)
        · walk_at "jrd"
          refine r_inL k2 rfl (fl_strs _) ?_
          rw [inV_strs]
          walk_at "jrd"
          have e : (decide (o ∈ ns) && decide (p' ∈ ns)) = decide (p' ∈ ns) := by rw [decide_eq_true ho, Bool.true_and]
          rw [e] at key
          exact key _ _ ⟨⟨_, _, rfl⟩, fun _ _ h => h⟩
        · walk_at "jrd"
          have e : (decide (o ∈ ns) && decide (p' ∈ ns)) = false := by rw [decide_eq_false ho, Bool.false_and]
          rw [e] at key
          exact key _ _ ⟨⟨_, _, rfl⟩, fun _ _ h => h⟩
    · rintro σ H2 ⟨e2, ⟨v4, v5, v6, v7, v8, v9, rfl⟩, ws, hws, tws, hwl⟩
      rw [List.take_of_length_le (by rw [hlen]; exact Nat.le_refl _)] at tws
      walk_at "jrd"
      exact q p ws H2 hn e2 hws tws
end
section
variable {P : Program} {w : World} {K : PySem.W.Frag} {mg : Str → Option Value} {base : Heap}
def sideOf (rows : List (Str × Str × Int)) (ns : List Str) (k : Nat) : Int := if (rows[k]?).map (·.1) = ns[k]? then 1 else -1
def chainW (rows : List (Str × Str × Int)) (ns : List Str) (a n : Nat) : Wy := (List.range' a n).map fun k => (k, sideOf rows ns k)
theorem chainW_snoc (rows : List (Str × Str × Int)) (ns : List Str) (a n : Nat) : chainW rows ns a (n + 1) = chainW rows ns a n ++ [(a + n, sideOf rows ns (a + n))] := by
  unfold chainW
  rw [List.range'_concat, List.map_append]
  simp
def sp_chain_way : Sp := fun vs H Q _ => ∃ (rl nl : Addr) (ws : List V) (rows : List (Str × Str × Int)) (ns : List Str) (a t : Nat), vs = [.ref rl, .ref nl, .int (a : Nat), .int (t : Nat)] ∧ H rl = some (.lst ws) ∧ Tups H encR ws rows ∧ H nl = some (.lst (ns.map V.str)) ∧ t ≤ rows.length ∧ t ≤ ns.length ∧ ns.length ≤ 1000 ∧
  a ≤ 1000 ∧ ∀ (p : Addr) (H' : Hp), H p = none → Same H H' → WayAt H' p (chainW rows ns a (t - a)) → Q (.ref p) H'
abbrev N_law_chain_way : List Str := ["_law_rows", "_law_names_here", "_law_at", "_law_to", "_law_way", "_law_k"]
theorem sc_law_chain_way : FnScope N_law_chain_way ["_law_rows", "_law_names_here", "_law_at", "_law_to"] (defScope s_law_chain_way) := ⟨rfl, rfl, rfl, by decide +kernel, rfl, by decide +kernel, by decide +kernel⟩
theorem ok_law_chain_way (T : Txt w K mg) : OkF P w K mg base 1 (gA K "_law_chain_way") ["_law_rows", "_law_names_here", "_law_at", "_law_to"] sp_chain_way := by
  refine okF (Td_law_chain_way T) sc_law_chain_way (fun _ _ _ _ _ _ us hl => match us, hl with | [_, _, _, _], _ => rfl) (fun vs H Q E h => ?_) (fun cdv A outer s H vs Q E hr h => have hu := hu_of hr; ⟨_, (pss_cons (ps_set (i := 4) sc_law_chain_way.nd rfl (by first | exact Or.inl rfl | exact Or.inr rfl) (pe_lst pa_nil))
      (pss_cons (ps_for PassesOwn.never rfl (pi_range2 rfl (Tf_range T) (pa_cons (pv 2) (pa_cons (pv 3) pa_nil))) (pg_name (i := 5) sc_law_chain_way.nd rfl (by first | exact Or.inl rfl | exact Or.inr rfl))
      (pss_one (ps_expr (pe_bm PySem.F.plainAttrs_list PySem.F.slot_list_append PySem.F.type_list_append mt_append (pv 4) (pa_cons (pe_tup (pa_cons (pv 5) (pa_cons (pe_ifExp (pt_cmpR op_eq (pe_ix (ix_tupK K) (pe_ix (ix_listK K) (pv 0) (pv 5) (fun _ _ => rfl)) pe_int (fun _ _ => rfl)) (pe_ix (ix_listK K) (pv 1) (pv 5) (fun _ _ => rfl)) (nomark _)) pe_int (pe_un un_neg pe_int)) pa_nil))) pa_nil)))))
      (pss_one (ps_ret (pe_callTy (call_tupleJ K) (by rfl) (Tf_tuple T) (by decide +kernel) (pa_cons (pv 4) pa_nil)))))), ?_⟩)
  · obtain ⟨rl, nl, ws, rows, ns, a, t, rfl, _⟩ := h
    rfl
  · obtain ⟨rl, nl, ws, rows, ns, a, t, rfl, hrl, tr, hnl, htr, htn, hz, ha, q⟩ := h
    have lr := tr.1
    walk_at "jrd"
    refine r_rng2 (by omega) (by omega) ?_
    have en : ((t : Int) - (a : Int)).toNat = t - a := by omega
    rw [en]
    refine loop_range (fun i σ H2 => Same H H2 ∧ (∃ v, σ = [some (.ref rl), some (.ref nl), some (.int (a : Nat)), some (.int (t : Nat)), some (.ref p), v]) ∧ ∃ vs, H2 p = some (.lst vs) ∧ Tups H2 encP vs (chainW rows ns a i) ∧ vs.length = i) ⟨he, ⟨_, rfl⟩, [], hp, Tups.nil, rfl⟩ ?_ ?_
    · clear he hp
      rintro i σ H2 hi ⟨e2, ⟨v, rfl⟩, vs, hvs, tvs, hlv⟩
      have hr : rows[a + i]? = some rows[a + i] := List.getElem?_eq_getElem (by omega)
      have hn' : ns[a + i]? = some ns[a + i] := List.getElem?_eq_getElem (by omega)
      obtain ⟨tt, hv, ht⟩ := (tr.stay (Same.tups e2)).at hr
      have hs : sideOf rows ns (a + i) = if (rows[a + i]).1 = ns[a + i] then 1 else -1 := by
        unfold sideOf
        rw [hr, hn']
        simp
      rw [chainW_snoc]
      have hnV : (ns.map V.str)[a + i]? = some (.str ns[a + i]) := by rw [List.getElem?_map, hn']; rfl
      have hrl2 := e2 _ _ hrl
      have hnl2 := e2 _ _ hnl
      generalize rows[a + i] = r at *
      generalize ns[a + i] = n at *
      have hpH : H p = none := hn
      unfold encR at ht
      show gName _ (V.int ((a : Int) + (i : Int))) _ _ _
      rw [show (a : Int) + (i : Int) = ((a + i : Nat) : Int) by omega]
      have key : ∀ (H3 : Hp) (p3 : Addr) (H4 : Hp) (v : Option V) (sd : Int), Same H2 H3 → H3 p3 = some (.tup [.int ((a + i : Nat) : Int), .int sd]) → Fr1 p H3 H4 → H4 p = some (.lst (vs ++ [.ref p3])) → sd = sideOf rows ns (a + i) → Same H H2 → Same H H4 ∧ (∃ w, [some (V.ref rl), some (.ref nl), some (.int (a : Nat)), some (.int (t : Nat)), some (.ref p), v] = [some (V.ref rl), some (.ref nl), some (.int (a : Nat)), some (.int (t : Nat)), some (.ref p), w]) ∧ ∃ vs, H4 p = some (.lst vs) ∧ Tups H4 encP vs (chainW rows ns a i ++ [(a + i, sideOf rows ns (a + i))]) ∧ vs.length = i + 1 := by
        intro H3 p3 H4 v sd e3 h3 f4 h4 hsd e2
        have t4 : TupS H3 H4 := Fr1.tups f4 (e3 _ _ hvs) (by intro xs z; cases z)
        subst hsd
        exact ⟨Same.mut (e2.trans e3) hpH f4, ⟨_, rfl⟩, _, h4, Tups.snoc (x := (a + i, sideOf rows ns (a + i))) ((tvs.stay (Same.tups e3)).stay t4) (t4 _ _ h3), by simp [hlv]⟩
      clear hrl hnl
      have few : vs.length ≤ 1000 := by omega
      walk_at "jrd"
      refine ite_of (fun z => ?_) (fun z => ?_)
      · rw [if_pos z] at hs
        walk_at "jrd"
        exact key _ _ _ _ _ he hp hf hp_1 hs.symm e2
      · rw [if_neg z] at hs
        walk_at "jrd"
        exact key _ _ _ _ _ he hp hf hp_1 hs.symm e2
    · rintro σ H2 ⟨e2, ⟨v, rfl⟩, vs, hvs, tvs, hlv⟩
      walk_at "jrd"
      exact q _ _ (e2.free hn_1) (e2.trans he_1) ⟨_, hp_1, tvs.stay (Same.tups he_1)⟩
end
section
variable {P : Program} {w : World} {K : PySem.W.Frag} {mg : Str → Option Value} {base : Heap}
def shP (p : Nat × Int) : Str := ((toString (p.1 : Int) : String) : Str) ++ (if p.2 = 1 then ("+" : Str) else ("-" : Str))
def shWay (w : Wy) : Str := Txt.join (" " : Str) (w.map shP)
theorem str_len_app (a b : Str) : (a ++ b).length = a.length + b.length := by
  show (a.cps ++ b.cps).size = _
  rw [Array.size_append]; rfl
theorem num_len : ∀ k < 400, (((toString ((k : Nat) : Int) : String) : Str)).length ≤ 3 := by decide +kernel
theorem shP_len {p : Nat × Int} (h : p.1 < 400) : (shP p).length ≤ 4 := by
  unfold shP
  rw [str_len_app]
  have := num_len p.1 h
  have h2 : (if p.2 = 1 then ("+" : Str) else ("-" : Str)).length = 1 := by split <;> decide +kernel
  omega
theorem sum_le {l : List Str} {n : Nat} (h : ∀ x ∈ l, x.length ≤ n) : (l.map (·.length)).sum ≤ l.length * n := by
  induction l with
  | nil => simp
  | cons x r ih =>
    have h1 := h x (by simp)
    have h2 := ih fun y hy => h y (by simp [hy])
    simp only [List.map_cons, List.sum_cons, List.length_cons, Nat.add_mul, Nat.one_mul]; omega
theorem log_small {k : Nat} (h : k < 400) : ((k : Nat) : Int).natAbs.log2 < 1920 := by
  have : ((k : Nat) : Int).natAbs = k := by simp
  rw [this]
  by_cases z : k = 0
  · subst z; decide
  · have := (Nat.log2_lt z (k := 9)).mpr (by omega)
    omega
def sp_shown_way : Sp := fun vs H Q _ => ∃ (a : Addr) (w : Wy), vs = [.ref a] ∧ WayAt H a w ∧ 0 < w.length ∧ w.length ≤ 1000 ∧ (∀ p ∈ w, p.1 < 400) ∧ ∀ H', Same H H' → Q (.str (shWay w)) H'
abbrev N_shown_way : List Str := ["way", "number", "side"]
theorem sc_shown_way : FnScope N_shown_way ["way"] (defScope s_shown_way) := ⟨rfl, rfl, rfl, by decide +kernel, rfl, by decide +kernel, by decide +kernel⟩
theorem ok_shown_way (T : Txt w K mg) : OkF P w K mg base 1 (gA K "shown_way") ["way"] sp_shown_way := by
  refine okF (Td_shown_way T) sc_shown_way (fun _ _ _ _ _ _ us hl => match us, hl with | [_], _ => rfl) (fun vs H Q E h => ?_) (fun cdv A outer s H vs Q E hr h => have hu := hu_of hr; ⟨_, (pss_cons (ps_if (pt_cmpR op_eq (pe_callB (call_lenJ K) (by rfl) (Tf_len T) (by decide +kernel) (pa_cons (pv 0) pa_nil)) pe_int (nomark _)) (pss_one (ps_ret pe_str)) pss_nil)
      (pss_one (ps_ret (pe_m1 PySem.F.slot_str_join PySem.F.type_str_join (mt_joinJ K) pe_str (pe_lc (own := [("number", 1), ("side", 2)]) (tt := tYes) rfl sc_shown_way.nd (pi_tup (pv 0)) (blkOk_by (N := N_shown_way) (sc := defScope s_shown_way) (by decide +kernel)) (fun _ _ _ _ _ => (pg_tupK K (n := 2) rfl (pgs_cons (pg_name (i := 1) sc_shown_way.nd rfl (by first | exact Or.inl rfl | exact Or.inr rfl)) (pgs_cons (pg_name (i := 2) sc_shown_way.nd rfl (by first | exact Or.inl rfl | exact Or.inr rfl)) pgs_nil)))) (fun _ _ _ _ _ => pts_nil) (fun _ _ _ _ _ => (pe_op op_addSJ (pe_callTy call_strJ (by rfl) (Tf_str T) (by decide +kernel) (pa_cons (pv 1) pa_nil)) (pe_ifExp (pt_cmpR op_eq (pv 2) pe_int (nomark _)) pe_str pe_str)))))))), ?_⟩)
  · obtain ⟨a, w, rfl, _⟩ := h
    rfl
  · obtain ⟨a, w', rfl, ⟨vs, hw, tw⟩, h0, h1, hk, q⟩ := h
    have lw := tw.1
    walk_at "jrd"
    refine ite_F (decide_eq_false (by omega)) ?_
    walk_at "jrd"
    refine lc_M [] walk_tup (fun H' f => SqT.of (frM_nil f _ _ hw)) (by omega) (by simp) (fun i acc H' => acc = ((w'.take i).map shP).map V.str) rfl (fun i acc H1 H2 p t m => p) ?_ ?_
    · rintro i y acc H3 H3' KY KN hi rfl f1 ⟨rfl, hy⟩ hacc hY hN
      have e1 := frM_nil f1
      obtain ⟨⟨k, s'⟩, t, hp, rfl, ht⟩ := (tw.stay (Same.tups e1)).2 i y hy
      have hk4 : k < 400 := hk _ (List.mem_of_getElem? hp)
      have nl := num_len k hk4
      rw [take_more hp, List.map_append, List.map_append] at hY
      unfold encP at ht
      clear f1
      walk_at "jrd"
      refine ⟨rfl, ?_⟩
      walk_at "jrd"
      refine ite_T rfl ?_
      walk_at "jrd"
      refine ⟨_, rfl, log_small hk4, ?_⟩
      walk_at "jrd"
      refine ite_tC ?_
      have h2 : (if s' = 1 then ("+" : Str) else ("-" : Str)).length = 1 := by split <;> decide +kernel
      refine j_addS (sz _ (by omega)) ?_
      exact hY _ _ (FrM.refl _ _) rfl
    · rintro acc D' H' hD f hp rfl _
      rw [List.take_of_length_le (by omega)] at hp
      walk_at "jrd"
      refine j_join hp ?_ (q _ (frM_nil f))
      have := sum_le (l := w'.map shP) (n := 4) fun x hx => by
        obtain ⟨p, hp, rfl⟩ := List.mem_map.mp hx
        exact shP_len (hk p hp)
      have e1 : (" " : Str).length = 1 := by decide +kernel
      rw [e1]
      rw [List.length_map] at *
      omega
abbrev N_shown_or_no : List Str := ["way"]
theorem sc_shown_or_no : FnScope N_shown_or_no ["way"] (defScope s_shown_or_no) := ⟨rfl, rfl, rfl, by decide +kernel, rfl, by decide +kernel, by decide +kernel⟩
theorem ok_shown_or_no (T : Txt w K mg) : OkF P w K mg base 2 (gA K "shown_or_no") ["way"] (fun vs H Q _ => ∃ (a : Addr) (w : Wy), vs = [.ref a] ∧ WayAt H a w ∧ 0 < w.length ∧ w.length ≤ 1000 ∧ (∀ p ∈ w, p.1 < 400) ∧ ∀ H', Same H H' → Q (.str (shWay w)) H') := by
  obtain ⟨fd_shown_way, c_shown_way⟩ := ok_shown_way (P := P) (base := base) T
  refine okF (Td_shown_or_no T) sc_shown_or_no (fun _ _ _ _ _ _ us hl => match us, hl with | [_], _ => rfl) (fun vs H Q E h => ?_) (fun cdv A outer s H vs Q E hr h => have hu := hu_of hr; ⟨_, (pss_one (ps_ret (pe_ifExp (pt_cmp (pc_isN (pv 0))) pe_str (pe_call c_shown_way.1 (hr.mono (by decide)) rfl (Tg_shown_way T) c_shown_way.2.2 c_shown_way.2.1 .nil pass0 (pa_cons (pv 0) pa_nil))))), ?_⟩)
  · obtain ⟨a, w, rfl, _⟩ := h
    rfl
  · obtain ⟨a, w', rfl, hw, h0, h1, hk, q⟩ := h
    walk_at "jrd"
    refine ite_F (by simp) ?_
    walk_at "jrd"
    exact ⟨a, w', rfl, hw, h0, h1, hk, q⟩
end
section
variable {P : Program} {w : World} {K : PySem.W.Frag} {mg : Str → Option Value} {base : Heap}
def N4 : List Str := ["a", "bb", "c", "d"]
theorem N4_ok : ∀ n ∈ N4, IsNm n := by unfold IsNm; decide +kernel
def rm (M : List Addr) (H : Hp) : Hp := fun b => if b ∈ M then none else H b
theorem rm_in (M : List Addr) (H : Hp) : Same (rm M H) H := fun b o h => by
  unfold rm at h
  by_cases z : b ∈ M
  · rw [if_pos z] at h; cases h
  · rw [if_neg z] at h; exact h
theorem rm_of {M : List Addr} {H : Hp} {b : Addr} (n : ¬ b ∈ M) : rm M H b = H b := by unfold rm; rw [if_neg n]
theorem rm_no {M : List Addr} {H : Hp} {b : Addr} (n : b ∈ M) : rm M H b = none := by unfold rm; rw [if_pos n]
/-- what a ghost knows, where it knows none of M -/
theorem rm_sub {M : List Addr} {G H : Hp} (e : Same G H) (n : ∀ m ∈ M, G m = none) : Same G (rm M H) := fun b o h => by
  have : ¬ b ∈ M := fun z => by rw [n b z] at h; cases h
  rw [rm_of this]; exact e _ _ h
theorem MeshAt.regh {K : PySem.W.Frag} {G G' H : Hp} {x pl : Addr} {turn : Int} {Ss : List SD} (M : MeshAt K G H x pl turn Ss) (e : Same G G') (s : Same G' H) (g : G' pl = none) : MeshAt K G' H x pl turn Ss := by
  obtain ⟨as, h1, h2, h3⟩ := M.past
  obtain ⟨dx, fs, i1, i2⟩ := M.ins
  exact ⟨s, ⟨dx, fs, e _ _ i1, i2⟩, ⟨as, h1, h2, fun i a D ha hD => (h3 i a D ha hD).same e⟩, g, M.len⟩
theorem LogAt.same {H H' : Hp} {vs : List V} {Ks : List (List Str × List Row)} (h : LogAt H vs Ks) (e : Same H H') : LogAt H' vs Ks :=
  ⟨h.1, fun i v k hv hk => by obtain ⟨t, h1, h2⟩ := h.2 i v k hv hk; exact ⟨t, h1, h2.same e⟩⟩
theorem LogAt.snoc {H : Hp} {vs : List V} {Ks : List (List Str × List Row)} {t : Addr} {ns : List Str} {rows : List Row} (h : LogAt H vs Ks) (k : KeptAt H t ns rows) : LogAt H (vs ++ [.ref t]) (Ks ++ [(ns, rows)]) := by
  refine ⟨by simp [h.1], fun i v q hv hq => ?_⟩
  rcases Nat.lt_or_ge i vs.length with hi | hi
  · rw [List.getElem?_append_left hi] at hv
    rw [List.getElem?_append_left (h.1 ▸ hi)] at hq
    exact h.2 i v q hv hq
  · have hi2 : i = vs.length := by
      have := (List.getElem?_eq_some_iff.mp hv).1
      simp at this; omega
    subst hi2
    have e1 : v = .ref t := by simpa using hv.symm
    rw [h.1] at hq
    have e2 : q = (ns, rows) := by simpa using hq.symm
    subst e1 e2
    exact ⟨t, rfl, k⟩
/-- within a turn: the mesh and the log, the names and rows of the turn -/
structure TnAt (K : PySem.W.Frag) (G H : Hp) (t x pl ll sd nl rl : Addr) (turn : Int) (sp : Str → Int) (Ss : List SD) (Ks : List (List Str × List Row)) (ls : List V) (b : Nat) (ns : List Str) (rows : List Row) : Prop where
  mesh : MeshAt K G H x pl turn Ss
  sdv : G sd = some (.dK (dmap N4 fun n => .int (sp n)))
  tape : Tape H t b
  log : H ll = some (.lst ls)
  kept : LogAt G ls Ks
  now : H nl = some (.lst (ns.map V.str))
  rws : ∃ ws, H rl = some (.lst ws) ∧ Tups H encN ws rows
  gt : G t = none
  gl : G ll = none
  gn : G nl = none
  gr : G rl = none
  tp : t ≠ pl
  tl : t ≠ ll
  pL : pl ≠ ll
  nt : nl ≠ t
  np : nl ≠ pl
  nL : nl ≠ ll
  rt : rl ≠ t
  rp : rl ≠ pl
  rL : rl ≠ ll
  rn : rl ≠ nl
section
variable {K : PySem.W.Frag} {G H : Hp} {t x pl ll sd nl rl : Addr} {turn : Int} {sp : Str → Int} {Ss : List SD} {Ks : List (List Str × List Row)} {ls : List V} {b : Nat} {ns : List Str} {rows : List Row}
theorem TnAt.same {H' : Hp} (A : TnAt K G H t x pl ll sd nl rl turn sp Ss Ks ls b ns rows) (e : Same H H') : TnAt K G H' t x pl ll sd nl rl turn sp Ss Ks ls b ns rows :=
  { A with mesh := A.mesh.same e, tape := A.tape.same e, log := e _ _ A.log, now := e _ _ A.now, rws := by obtain ⟨ws, h1, h2⟩ := A.rws; exact ⟨ws, e _ _ h1, h2.stay (Same.tups e)⟩ }
theorem TnAt.draw {H' : Hp} {b' : Nat} (A : TnAt K G H t x pl ll sd nl rl turn sp Ss Ks ls b ns rows) (f : Fr1 t H H') (T : Tape H' t b') : TnAt K G H' t x pl ll sd nl rl turn sp Ss Ks ls b' ns rows := by
  obtain ⟨xt, ht⟩ := A.tape.some
  have tt : TupS H H' := Fr1.tups f ht (by intro xs z; cases z)
  exact { A with mesh := A.mesh.fr f A.gt A.tp.symm, tape := T, log := f _ _ A.log A.tl.symm, now := f _ _ A.now A.nt, rws := by obtain ⟨ws, h1, h2⟩ := A.rws; exact ⟨ws, f _ _ h1 A.rt, h2.stay tt⟩ }
theorem TnAt.nowc {H' : Hp} {ns' : List Str} (A : TnAt K G H t x pl ll sd nl rl turn sp Ss Ks ls b ns rows) (f : Fr1 nl H H') (h : H' nl = some (.lst (ns'.map V.str))) : TnAt K G H' t x pl ll sd nl rl turn sp Ss Ks ls b ns' rows := by
  have tt : TupS H H' := Fr1.tups f A.now (by intro xs z; cases z)
  exact { A with mesh := A.mesh.fr f A.gn A.np.symm, tape := A.tape.fr f A.nt.symm, log := f _ _ A.log A.nL.symm, now := h, rws := by obtain ⟨ws, h1, h2⟩ := A.rws; exact ⟨ws, f _ _ h1 A.rn, h2.stay tt⟩ }
theorem TnAt.rwsc {H' : Hp} {ws' : List V} {rows' : List Row} (A : TnAt K G H t x pl ll sd nl rl turn sp Ss Ks ls b ns rows) (f : Fr1 rl H H') (h : H' rl = some (.lst ws')) (h' : Tups H' encN ws' rows') : TnAt K G H' t x pl ll sd nl rl turn sp Ss Ks ls b ns rows' := by
  exact { A with mesh := A.mesh.fr f A.gr A.rp.symm, tape := A.tape.fr f A.rt.symm, log := f _ _ A.log A.rL.symm, now := f _ _ A.now A.rn.symm, rws := ⟨ws', h, h'⟩ }
theorem TnAt.meshc {G' H' : Hp} {Ss' : List SD} (A : TnAt K G H t x pl ll sd nl rl turn sp Ss Ks ls b ns rows) (f : Fr1 pl H H') (g : GrowM G H G') (M : MeshAt K G' H' x pl turn Ss') : TnAt K G' H' t x pl ll sd nl rl turn sp Ss' Ks ls b ns rows := by
  obtain ⟨as, h1, _, _⟩ := A.mesh.past
  have tt : TupS H H' := Fr1.tups f h1 (by intro xs z; cases z)
  obtain ⟨xt, ht⟩ := A.tape.some
  obtain ⟨ws, h3, h4⟩ := A.rws
  exact { A with mesh := M, sdv := g.1 _ _ A.sdv, tape := A.tape.fr f A.tp, log := f _ _ A.log A.pL.symm, kept := A.kept.same g.1, now := f _ _ A.now A.np, rws := ⟨ws, f _ _ h3 A.rp, h4.stay tt⟩, gt := g.2 _ (by rw [ht]; simp) A.gt, gl := g.2 _ (by rw [A.log]; simp) A.gl, gn := g.2 _ (by rw [A.now]; simp) A.gn, gr := g.2 _ (by rw [h3]; simp) A.gr }
/-- other rows, new -/
theorem TnAt.rows2 {rl2 : Addr} {ws2 : List V} {rows2 : List Row} (A : TnAt K G H t x pl ll sd nl rl turn sp Ss Ks ls b ns rows) (h : H rl2 = some (.lst ws2)) (h' : Tups H encN ws2 rows2) (g : G rl2 = none) (n1 : rl2 ≠ t) (n2 : rl2 ≠ pl) (n3 : rl2 ≠ ll) (n4 : rl2 ≠ nl) : TnAt K G H t x pl ll sd nl rl2 turn sp Ss Ks ls b ns rows2 :=
  { A with rws := ⟨ws2, h, h'⟩, gr := g, rt := n1, rp := n2, rL := n3, rn := n4 }
theorem TnAt.old {H0 : Hp} (A : TnAt K G H t x pl ll sd nl rl turn sp Ss Ks ls b ns rows) {p : Addr} (hn : H p = none) : p ≠ t ∧ p ≠ pl ∧ p ≠ ll ∧ p ≠ nl ∧ p ≠ rl ∧ G p = none := by
  obtain ⟨as, h1, _, _⟩ := A.mesh.past
  obtain ⟨ws, h3, h4⟩ := A.rws
  exact ⟨A.tape.ne hn, (ne_of_none h1 hn).symm, (ne_of_none A.log hn).symm, (ne_of_none A.now hn).symm, (ne_of_none h3 hn).symm, A.mesh.sub.free hn⟩
end
/-- between the turns -/
structure LmAt (K : PySem.W.Frag) (G H : Hp) (t x pl ll sd : Addr) (turn : Int) (sp : Str → Int) (Ss : List SD) (Ks : List (List Str × List Row)) (ls : List V) (b : Nat) : Prop where
  mesh : MeshAt K G H x pl turn Ss
  sdv : G sd = some (.dK (dmap N4 fun n => .int (sp n)))
  tape : Tape H t b
  log : H ll = some (.lst ls)
  kept : LogAt G ls Ks
  gt : G t = none
  gl : G ll = none
  tp : t ≠ pl
  tl : t ≠ ll
  pL : pl ≠ ll
section
variable {K : PySem.W.Frag} {G H : Hp} {t x pl ll sd nl rl : Addr} {turn : Int} {sp : Str → Int} {Ss : List SD} {Ks : List (List Str × List Row)} {ls : List V} {b : Nat} {ns : List Str} {rows : List Row}
theorem LmAt.same {H' : Hp} (A : LmAt K G H t x pl ll sd turn sp Ss Ks ls b) (e : Same H H') : LmAt K G H' t x pl ll sd turn sp Ss Ks ls b :=
  { A with mesh := A.mesh.same e, tape := A.tape.same e, log := e _ _ A.log }
theorem LmAt.draw {H' : Hp} {b' : Nat} (A : LmAt K G H t x pl ll sd turn sp Ss Ks ls b) (f : Fr1 t H H') (T : Tape H' t b') : LmAt K G H' t x pl ll sd turn sp Ss Ks ls b' :=
  { A with mesh := A.mesh.fr f A.gt A.tp.symm, tape := T, log := f _ _ A.log A.tl.symm }
/-- a turn begins -/
theorem LmAt.begins {H' : Hp} {ws : List V} (A : LmAt K G H t x pl ll sd turn sp Ss Ks ls b) (e : Same H H') (n1 : H nl = none) (n2 : H rl = none) (n3 : rl ≠ nl) (h1 : H' nl = some (.lst (ns.map V.str))) (h2 : H' rl = some (.lst ws)) (h3 : Tups H' encN ws rows) : TnAt K G H' t x pl ll sd nl rl turn sp Ss Ks ls b ns rows := by
  obtain ⟨as, h4, _, _⟩ := A.mesh.past
  have B := A.same e
  exact ⟨B.mesh, B.sdv, B.tape, B.log, B.kept, h1, ⟨ws, h2, h3⟩, B.gt, B.gl, A.mesh.sub.free n1, A.mesh.sub.free n2, B.tp, B.tl, B.pL, A.tape.ne n1, (ne_of_none h4 n1).symm, (ne_of_none A.log n1).symm, A.tape.ne n2, (ne_of_none h4 n2).symm, (ne_of_none A.log n2).symm, n3⟩
/-- a turn ends -/
theorem TnAt.ends {H1 H2 : Hp} {kt : Addr} (A : TnAt K G H t x pl ll sd nl rl turn sp Ss Ks ls b ns rows) (e : Same H H1) (hk : H1 kt = some (.tup [.ref nl, .ref rl])) (hkn : H kt = none) (f : Fr1 ll H1 H2) (h2 : H2 ll = some (.lst (ls ++ [.ref kt]))) : LmAt K (rm [t, pl, ll] H2) H2 t x pl ll sd turn sp Ss (Ks ++ [(ns, rows)]) (ls ++ [.ref kt]) b := by
  have B := A.same e
  have M2 := B.mesh.fr f B.gl B.pL
  have sub : Same G (rm [t, pl, ll] H2) := rm_sub M2.sub fun m hm => by
    simp only [List.mem_cons, List.not_mem_nil, or_false] at hm
    rcases hm with rfl | rfl | rfl
    · exact A.gt
    · exact A.mesh.gpl
    · exact A.gl
  have tt : TupS H1 H2 := Fr1.tups f B.log (by intro xs z; cases z)
  obtain ⟨ws, h3, h4⟩ := B.rws
  obtain ⟨k1, k2, k3, k4, k5, _⟩ := A.old (H0 := H) hkn
  have out : ∀ {a : Addr}, a ≠ t → a ≠ pl → a ≠ ll → rm [t, pl, ll] H2 a = H2 a := fun h1 h2 h3 => rm_of (by simp [h1, h2, h3])
  have tk : TupS H2 (rm [t, pl, ll] H2) := fun q xs hq => by
    obtain ⟨as, h1, _, _⟩ := M2.past
    obtain ⟨xt, ht⟩ := (B.tape.fr f B.tl).some
    rw [out (ne_of hq ht (by intro z; cases z)) (ne_of hq h1 (by intro z; cases z)) (ne_of hq h2 (by intro z; cases z))]
    exact hq
  refine ⟨M2.regh sub (rm_in _ _) (rm_no (by simp)), sub _ _ A.sdv, B.tape.fr f B.tl, h2, (A.kept.same sub).snoc ⟨nl, rl, ws, ?_, ?_, ?_, (h4.stay tt).stay tk⟩, rm_no (by simp), rm_no (by simp), A.tp, A.tl, A.pL⟩
  · rw [out k1 k2 k3]; exact f _ _ hk k3
  · rw [out A.nt A.np A.nL]; exact f _ _ B.now A.nL
  · rw [out A.rt A.rp A.rL]; exact f _ _ h3 A.rL
end
/-- a test whose two ways are shown ahead -/
theorem w_ifV {D : Ends} {σ : L2.St} {H : Hp} {c : TT} {t u : TS} (R1 R2 : Hp → Prop) (h1 : ∀ H, R1 H → t D σ H) (h2 : ∀ H, R2 H → u D σ H)
    (h : (∀ H, R1 H → Hid (t D) σ H) → (∀ H, R2 H → Hid (u D) σ H) → c σ H fun b H1 => if b = true then Hid (t D) σ H1 else Hid (u D) σ H1) : tIfS c t u D σ H := h h1 h2
/-! ### list.remove -/
theorem place_of {ds : List PyData} {d : PyData} {j : Nat} (h : ds[j]? = some d) (r : PyData.eqv d d = true) (no : ∀ m e, m < j → ds[m]? = some e → PyData.eqv e d = false) : SeqAt.dataPlace ds d = some j := by
  obtain ⟨hl, he⟩ := List.getElem?_eq_some_iff.mp h
  unfold SeqAt.dataPlace
  refine List.findIdx?_eq_some_iff_getElem.mpr ⟨hl, by rw [he]; exact r, fun m hm => ?_⟩
  have := no m _ hm (List.getElem?_eq_getElem (by omega))
  simp [this]
theorem Tups.erase {β : Type} {H : Hp} {enc : β → List V} : ∀ {vs : List V} {xs : List β} (j : Nat), Tups H enc vs xs → Tups H enc (vs.eraseIdx j) (xs.eraseIdx j)
  | vs, xs, j, h => by
    refine ⟨by rw [List.length_eraseIdx, List.length_eraseIdx, h.1], fun i v hv => ?_⟩
    rw [List.getElem?_eraseIdx] at hv ⊢
    split at hv
    · next z => obtain ⟨x, t, h1, h2⟩ := h.2 i v hv; exact ⟨x, t, by rw [if_pos z]; exact h1, h2⟩
    · next z => obtain ⟨x, t, h1, h2⟩ := h.2 (i + 1) v hv; exact ⟨x, t, by rw [if_neg z]; exact h1, h2⟩
theorem erase_filter {rows : List Row} {j : Nat} {r : Row} (nd : (rows.map (·.1)).Nodup) (h : rows[j]? = some r) : rows.eraseIdx j = rows.filter fun q => q.1 ≠ r.1 := by
  induction rows generalizing j with
  | nil => simp at h
  | cons q rest ih =>
    obtain ⟨h1, h2⟩ := List.nodup_cons.mp nd
    cases j with
    | zero =>
      have e : q = r := by simpa using h
      subst e
      rw [List.eraseIdx_cons_zero, List.filter_cons_of_neg (by simp)]
      refine (List.filter_eq_self.mpr fun a ha => ?_).symm
      simp only [decide_eq_true_eq]
      exact fun z => h1 (List.mem_map.mpr ⟨a, ha, z⟩)
    | succ j =>
      have h' : rest[j]? = some r := by simpa using h
      have ne : q.1 ≠ r.1 := fun z => h1 (List.mem_map.mpr ⟨r, List.mem_of_getElem? h', z.symm⟩)
      rw [List.eraseIdx_cons_succ, List.filter_cons_of_pos (by simpa using ne), ih h2 h']
section
variable {K : PySem.W.Frag} {H : Hp} {Q : VK}
theorem r_remRow {l : Addr} {ws : List V} {rows : List Row} {j : Nat} {r : Row} {a : Addr} (h : H l = some (.lst ws)) (t : Tups H encN ws rows) (f : ∀ x ∈ rows, ∀ v ∈ encN x, flV v = true) (nd : (rows.map (·.1)).Nodup) (hr : rows[j]? = some r) (ha : H a = some (.tup (encN r)))
    (k : ∀ H', (hf : Fr1 l H H') → (hp : H' l = some (.lst (ws.eraseIdx j))) → Q .non H') : rRemD K (.ref l) [.ref a] H Q := by
  have fr := f r (List.mem_of_getElem? hr)
  have l2 := ly_tups (enc := encN) (xs := rows) f
  refine ⟨l, ws, .ref a, _, _, j, rfl, rfl, h, dpAll_tups t f, dp_tup ha fr, (ly_tup fr).1, l2.1, by have := (ly_tup fr).2; omega, place_of (by rw [List.getElem?_map, hr]; rfl) (ly_tup fr).refl fun m e hm he => ?_, k _ Fr1.upd upd_same⟩
  rw [List.getElem?_map, Option.map_eq_some_iff] at he
  obtain ⟨q, hq, rfl⟩ := he
  have ne : q.1 ≠ r.1 := fun z => by
    have h1 : (rows.map (·.1))[m]? = some q.1 := by rw [List.getElem?_map, hq]; rfl
    have h2 : (rows.map (·.1))[j]? = some r.1 := by rw [List.getElem?_map, hr]; rfl
    have := (List.getElem?_inj (List.getElem?_eq_some_iff.mp h1).1 nd).mp (h1.trans (by rw [z]; exact h2.symm))
    omega
  have : ((q.1 : Int) == (r.1 : Int)) = false := by simp; omega
  simp [encN, pdV, PyData.eqv, PyData.eqvAll, this]
theorem r_remStr {l : Addr} {ns : List Str} {n : Str} (h : H l = some (.lst (ns.map V.str))) (f : ∀ v ∈ ns.map V.str, flV v = true) (nd : ns.Nodup) (hn : n ∈ ns)
    (k : ∀ H' (ns' : List Str), (hf : Fr1 l H H') → (hp : H' l = some (.lst (ns'.map V.str))) → ns'.Perm (ns.filter fun m => m ≠ n) → Q .non H') : rRemD K (.ref l) [.str n] H Q := by
  obtain ⟨j, hj, e⟩ := List.mem_iff_getElem.mp hn
  have hr : ns[j]? = some n := by rw [List.getElem?_eq_getElem hj, e]
  have fn : flV (.str n) = true := f _ (List.mem_map.mpr ⟨n, hn, rfl⟩)
  refine ⟨l, ns.map V.str, .str n, .str n, (ns.map V.str).map pdV, j, rfl, rfl, h, dpAll_fl f, dp_fl fn, (Ly.pd fn).1, (ly_lst f).1, by simp [PyData.depth], place_of (by rw [List.getElem?_map, List.getElem?_map, hr]; rfl) (Ly.pd fn).refl fun m e hm he => ?_, ?_⟩
  · rw [List.getElem?_map, List.getElem?_map] at he
    cases hq : ns[m]? with
    | none => rw [hq] at he; cases he
    | some q =>
      rw [hq] at he
      have e : e = .str q := by simpa [pdV] using he.symm
      subst e
      have ne : q ≠ n := fun z => by
        have := (List.getElem?_inj (List.getElem?_eq_some_iff.mp hq).1 nd).mp (hq.trans (by rw [z]; exact hr.symm))
        omega
      simp [PyData.eqv, ne]
  · have em : (ns.map V.str).eraseIdx j = (ns.eraseIdx j).map V.str := by rw [List.eraseIdx_eq_take_drop_succ, List.eraseIdx_eq_take_drop_succ, List.map_append, List.map_take, List.map_drop]
    rw [em]
    refine k _ _ Fr1.upd upd_same (perm_of (nd.sublist (List.eraseIdx_sublist _ _)) (nd.filter _) fun y => ?_)
    have p : (n :: ns.eraseIdx j).Perm ns := by
      rw [List.eraseIdx_eq_take_drop_succ]
      refine List.perm_middle.symm.trans ?_
      have h1 : ns.take j ++ n :: ns.drop (j + 1) = ns := by
        rw [← e, ← List.drop_eq_getElem_cons hj, List.take_append_drop]
      rw [h1]
    have nd2 : (n :: ns.eraseIdx j).Nodup := p.nodup_iff.mpr nd
    have h1 := p.mem_iff (a := y)
    rw [List.mem_filter]
    simp only [decide_eq_true_eq]
    constructor
    · intro hy
      exact ⟨h1.mp (List.mem_cons_of_mem _ hy), fun z => (List.nodup_cons.mp nd2).1 (z ▸ hy)⟩
    · rintro ⟨hy, ne⟩
      rcases List.mem_cons.mp (h1.mpr hy) with z | z
      · exact absurd z ne
      · exact z
end
theorem tog_eq {o p : Str} {k : List Str × List Row} {E : SD} (h1 : k.1.Perm E.names) (h2 : k.2 = E.rows) : togK o p k = togD o p E := by
  unfold togK togD SD.lab
  rw [h2, decide_eq_decide.mpr h1.mem_iff, decide_eq_decide.mpr h1.mem_iff]
def rPar3 (i j l : Nat) (D : Ends) (σ : L2.St) : List V → Hp → Prop := fun vs H1 => ∃ u v w, vs = [u, v, w] ∧ D.nx (((σ.set i (some u)).set j (some v)).set l (some w)) H1
theorem w_par3 {σ : L2.St} {H : Hp} {D : Ends} {i j l : Nat} {t : TA} (k : t σ H (rPar3 i j l D σ)) : tPar3 i j l t D σ H := k
theorem j_par3 {σ : L2.St} {H : Hp} {D : Ends} {i j l : Nat} {u v w : V} (k : D.nx (((σ.set i (some u)).set j (some v)).set l (some w)) H) : rPar3 i j l D σ [u, v, w] H := ⟨u, v, w, rfl, k⟩
structure LmP (sp : Str → Int) (turn : Int) (Ss : List SD) (D : SD) (Ks : List (List Str × List Row)) : Prop where
  rel : ∀ (j : Nat) (k : List Str × List Row) (E : SD), Ks[j]? = some k → (Ss ++ [D])[j]? = some E → k.1.Perm E.names ∧ k.2 = E.rows
  klen : Ks.length = Ss.length + 1
  nam : ∀ E ∈ Ss ++ [D], ∀ n ∈ E.names, n ∈ N4
  aIn : ("a" : Str) ∈ D.names
  right : Right sp turn D
  co : D.coming ≤ Ss.length
theorem LmP.next {sp : Str → Int} {turn : Int} {Ss : List SD} {D D' : SD} {Ks : List (List Str × List Row)} {ns : List Str} {rows : List Row} (h : LmP sp turn Ss D Ks) (h1 : ns.Perm D'.names) (h2 : rows = D'.rows) (h3 : ∀ n ∈ D'.names, n ∈ N4) (h4 : ("a" : Str) ∈ D'.names) (h5 : Right sp turn D') (h6 : D'.coming ≤ D.coming + 1) : LmP sp turn (Ss ++ [D]) D' (Ks ++ [(ns, rows)]) := by
  have co := h.co
  refine ⟨fun j k E hk hE => ?_, by simp [h.klen], fun E hE => ?_, h4, h5, by simp; omega⟩
  · rcases Nat.lt_or_ge j Ks.length with hj | hj
    · rw [List.getElem?_append_left hj] at hk
      rw [List.getElem?_append_left (by rw [List.length_append]; have := h.klen; simp; omega)] at hE
      exact h.rel j k E hk hE
    · have e : j = Ks.length := by
        have := (List.getElem?_eq_some_iff.mp hk).1
        simp at this; omega
      subst e
      have e1 : k = (ns, rows) := by simpa using hk.symm
      have e3 : Ks.length = (Ss ++ [D]).length := by rw [h.klen]; simp
      rw [e3] at hE
      have e2 : E = D' := by simpa using hE.symm
      subst e1 e2
      exact ⟨h1, h2⟩
  · rcases List.mem_append.mp hE with z | z
    · exact h.nam E z
    · have : E = D' := by simpa using z
      subst this; exact h3
theorem LmP.lastK {sp : Str → Int} {turn : Int} {Ss : List SD} {D : SD} {Ks : List (List Str × List Row)} (h : LmP sp turn Ss D Ks) : ∃ Ks' ns rows, Ks = Ks' ++ [(ns, rows)] ∧ ns.Perm D.names ∧ rows = D.rows := by
  rcases nil_or_snoc Ks with rfl | ⟨Ks', ⟨ns, rows⟩, rfl⟩
  · have := h.klen; simp at this
  · have e : Ks'.length = Ss.length := by have := h.klen; simpa using this
    obtain ⟨h1, h2⟩ := h.rel Ks'.length (ns, rows) D (by simp) (by rw [e]; simp)
    exact ⟨Ks', ns, rows, rfl, h1, h2⟩
theorem LogAt.last {H : Hp} {vs : List V} {Ks : List (List Str × List Row)} {ns : List Str} {rows : List Row} (h : LogAt H vs (Ks ++ [(ns, rows)])) : ∃ vs' t, vs = vs' ++ [.ref t] ∧ KeptAt H t ns rows := by
  rcases nil_or_snoc vs with rfl | ⟨vs', v, rfl⟩
  · have := h.1; simp at this
  · have e : vs'.length = Ks.length := by have := h.1; simpa using this
    obtain ⟨t, h1, h2⟩ := h.2 vs'.length v (ns, rows) (by simp) (by rw [e]; simp)
    subst h1
    exact ⟨vs', t, rfl, h2⟩
theorem names_few {D : SD} (ok : D.Ok) (h : ∀ n ∈ D.names, n ∈ N4) : D.names.length ≤ 4 := by
  have := nodup_sub_len ok.nd h
  exact this
theorem intsN_snoc (l : List Nat) (k : Nat) : intsN (l ++ [k]) = intsN l ++ [.int (k : Nat)] := by unfold intsN; rw [List.map_append]; rfl
theorem MeshAt.lastOk {K : PySem.W.Frag} {G H : Hp} {x pl : Addr} {turn : Int} {Ss : List SD} {D : SD} (M : MeshAt K G H x pl turn (Ss ++ [D])) : D.Ok := by
  obtain ⟨as, a, _, _, S, _⟩ := M.last
  exact S.ok
theorem Right.sub {sp : Str → Int} {turn : Int} {D D' : SD} (h : Right sp turn D) (s : ∀ r ∈ D'.rows, r ∈ D.rows) : Right sp turn D' := fun r hr => h r (s r hr)
theorem LmP.kok {sp : Str → Int} {turn : Int} {Ss : List SD} {D : SD} {Ks : List (List Str × List Row)} (h : LmP sp turn Ss D Ks) (oks : ∀ (j : Nat) (E : SD), (Ss ++ [D])[j]? = some E → E.Ok) : ∀ k ∈ Ks, KOk k.1 k.2 := fun k hk => by
  obtain ⟨j, hj, rfl⟩ := List.mem_iff_getElem.mp hk
  have hj2 : j < (Ss ++ [D]).length := by rw [List.length_append]; have := h.klen; simp; omega
  have hE := List.getElem?_eq_getElem hj2
  obtain ⟨h1, h2⟩ := h.rel j _ _ (List.getElem?_eq_getElem hj) hE
  have ok := oks j _ hE
  refine ⟨h1.nodup_iff.mpr ok.nd, by rw [h1.length_eq]; have := ok.few; omega, by rw [h2]; have := ok.len; omega, fun r hr => ?_⟩
  rw [h2] at hr
  exact ⟨h1.mem_iff.mpr (ok.inn r hr).1, h1.mem_iff.mpr (ok.inn r hr).2⟩
theorem LmP.togs {sp : Str → Int} {turn : Int} {Ss : List SD} {D : SD} {Ks : List (List Str × List Row)} (h : LmP sp turn Ss D Ks) (o p : Str) : Ks.map (togK o p) = (Ss ++ [D]).map (togD o p) := by
  refine List.ext_getElem (by simp [h.klen]) fun j h1 h2 => ?_
  rw [List.length_map] at h1 h2
  rw [List.getElem_map, List.getElem_map]
  obtain ⟨e1, e2⟩ := h.rel j _ _ (List.getElem?_eq_getElem h1) (List.getElem?_eq_getElem h2)
  exact tog_eq e1 e2
end
section
variable {P : Program} {w : World} {K : PySem.W.Frag} {mg : Str → Option Value} {base : Heap}
abbrev N_law_mesh_right : List Str := ["_law_tape_here", "_law_names_here", "_law_turn", "_law_coming", "_law_spots", "_law_name", "_law_mesh", "_law_log", "_law_k", "_law_now", "_law_rows", "_law_way", "_law_gone", "_law_row", "_law_one", "_law_other", "_law_step", "_law_last", "_law_moment"]
theorem sc_law_mesh_right : FnScope N_law_mesh_right ["_law_tape_here"] (defScope s_law_mesh_right) := ⟨rfl, rfl, rfl, by decide +kernel, rfl, by decide +kernel, by decide +kernel⟩
theorem ok_law_mesh_right (T : Txt w K mg) : OkF P w K mg base 7 (gA K "_law_mesh_right") ["_law_tape_here"] (fun vs H Q _ => ∃ (t : Addr) (b : Nat), vs = [.ref t] ∧ Tape H t b ∧ b ≤ 100 ∧ ∀ H', Q (.bl true) H') := by
  obtain ⟨fd_law_draw, c_law_draw⟩ := ok_law_draw (P := P) (base := base) T
  obtain ⟨fd_Mesh_init, c_Mesh_init⟩ := ok_Mesh_init (P := P) (base := base) T
  obtain ⟨fd_Mesh_put_name, c_Mesh_put_name⟩ := ok_Mesh_put_name (P := P) (base := base) T
  obtain ⟨fd_Mesh_drop_name, c_Mesh_drop_name⟩ := ok_Mesh_drop_name (P := P) (base := base) T
  obtain ⟨fd_Mesh_take, c_Mesh_take⟩ := ok_Mesh_take (P := P) (base := base) T
  obtain ⟨fd_law_right_step, c_law_right_step⟩ := ok_law_right_step (P := P) (base := base) T
  obtain ⟨fd_Mesh_join, c_Mesh_join⟩ := ok_Mesh_join (P := P) (base := base) T
  obtain ⟨fd_Mesh_times_together, c_Mesh_times_together⟩ := ok_Mesh_times_together (P := P) (base := base) T
  obtain ⟨fd_law_times, c_law_times⟩ := ok_law_times (P := P) (base := base) T
  obtain ⟨fd_Mesh_moment, c_Mesh_moment⟩ := ok_Mesh_moment (P := P) (base := base) T
  obtain ⟨fd_law_moment_right, c_law_moment_right⟩ := ok_law_moment_right (P := P) (base := base) T
  have cl_Mesh := Tc_Mesh T
  refine okF (Td_law_mesh_right T) sc_law_mesh_right (fun _ _ _ _ _ _ us hl => match us, hl with | [_], _ => rfl) (fun vs H Q E h => ?_) (fun cdv A outer s H vs Q E hr h => have hu := hu_of hr; ⟨_, (pss_cons (ps_par3 (i := 1) (j := 2) (l := 3) rfl sc_law_mesh_right.nd rfl rfl rfl (by decide) (by decide) (by decide) rfl rfl rfl (pa_cons (pe_lst (pa_cons pe_str (pa_cons pe_str (pa_cons pe_str pa_nil)))) (pa_cons (pe_ix (ix_listK K) (pe_lst (pa_cons pe_int (pa_cons pe_int (pa_cons pe_int pa_nil)))) (pe_call c_law_draw.1 (hr.mono (by decide)) rfl (Tg_law_draw T) c_law_draw.2.2 c_law_draw.2.1 .nil pass0 (pa_cons (pv 0) (pa_cons pe_int pa_nil))) (fun _ _ => rfl)) (pa_cons pe_int pa_nil))) (by rfl))
      (pss_cons (ps_set (i := 4) sc_law_mesh_right.nd rfl (by first | exact Or.inl rfl | exact Or.inr rfl) (pe_callTy (call_dictJ K rfl) (by rfl) (Tf_dict T) (by decide +kernel) (pa_cons (pe_lc (own := [("_law_name", 5)]) (tt := tYes) rfl sc_law_mesh_right.nd (pi_list (pe_op op_cat (pv 1) (pe_lst (pa_cons pe_str pa_nil)))) (blkOk_by (N := N_law_mesh_right) (sc := defScope s_law_mesh_right) (by decide +kernel)) (fun _ _ _ _ _ => (pg_name (i := 5) sc_law_mesh_right.nd rfl (by first | exact Or.inl rfl | exact Or.inr rfl))) (fun _ _ _ _ _ => pts_nil) (fun _ _ _ _ _ => (pe_tup (pa_cons (pv 5) (pa_cons (pe_call c_law_draw.1 (hr.mono (by decide)) rfl (Tg_law_draw T) c_law_draw.2.2 c_law_draw.2.1 .nil pass0 (pa_cons (pv 0) (pa_cons pe_int pa_nil))) pa_nil))))) pa_nil)))
      (pss_cons (ps_par (i := 6) (j := 7) (by rfl) sc_law_mesh_right.nd rfl rfl (by decide) rfl rfl (pa_cons (pe_make (Tk_Mesh T) c_Mesh_init.1 (hr.mono (by decide)) rfl (Tg_Mesh T) c_Mesh_init.2.1 .nil pass0 (pa_cons (pe_callTy (call_listJ K) (by rfl) (Tf_list T) (by decide +kernel) (pa_cons (pv 1) pa_nil)) (pa_cons (pv 2) pa_nil))) (pa_cons (pe_lst (pa_cons (pe_tup (pa_cons (pe_callTy (call_listJ K) (by rfl) (Tf_list T) (by decide +kernel) (pa_cons (pv 1) pa_nil)) (pa_cons (pe_lst pa_nil) pa_nil))) pa_nil)) pa_nil)) (by rfl))
      (pss_cons (ps_for PassesOwn.never rfl (pi_range1 rfl (Tf_range T) (pa_cons (pe_op op_add pe_int (pe_call c_law_draw.1 (hr.mono (by decide)) rfl (Tg_law_draw T) c_law_draw.2.2 c_law_draw.2.1 .nil pass0 (pa_cons (pv 0) (pa_cons pe_int pa_nil)))) pa_nil)) (pg_name (i := 8) sc_law_mesh_right.nd rfl (by first | exact Or.inl rfl | exact Or.inr rfl))
      (pss_cons (ps_par (i := 9) (j := 10) (by rfl) sc_law_mesh_right.nd rfl rfl (by decide) rfl rfl (pa_cons (pe_callTy (call_listJ K) (by rfl) (Tf_list T) (by decide +kernel) (pa_cons (pe_ix (ix_tupK K) (pe_ix (ix_listK K) (pv 7) (pe_un un_neg pe_int) (fun _ _ => rfl)) pe_int (fun _ _ => rfl)) pa_nil)) (pa_cons (pe_callTy (call_listJ K) (by rfl) (Tf_list T) (by decide +kernel) (pa_cons (pe_ix (ix_tupK K) (pe_ix (ix_listK K) (pv 7) (pe_un un_neg pe_int) (fun _ _ => rfl)) pe_int (fun _ _ => rfl)) pa_nil)) pa_nil)) (by rfl))
      (pss_cons (ps_set (i := 11) sc_law_mesh_right.nd rfl (by first | exact Or.inl rfl | exact Or.inr rfl) (pe_call c_law_draw.1 (hr.mono (by decide)) rfl (Tg_law_draw T) c_law_draw.2.2 c_law_draw.2.1 .nil pass0 (pa_cons (pv 0) (pa_cons pe_int pa_nil))))
      (pss_cons (ps_if (PW.pt (pw_and (pt_cmpR op_eq (pv 11) pe_int (nomark _)) (pw_and1 (pt_cmpR (op_notInK K) pe_str (pv 9) (by rfl))))) (pss_cons (ps_expr (pe_meth (pv 6) (Tc_Mesh T) (Tm_Mesh_put_name T) c_Mesh_put_name.1 (hr.mono (by decide)) c_Mesh_put_name.2.1 .nil pass0 (pa_cons pe_str pa_nil)))
      (pss_one (ps_expr (pe_bm PySem.F.plainAttrs_list PySem.F.slot_list_append PySem.F.type_list_append mt_append (pv 9) (pa_cons pe_str pa_nil))))) (pss_one (ps_if (PW.pt (pw_and (pt_cmpR op_eq (pv 11) pe_int (nomark _)) (pw_and1 (pt_cmpR (op_inK K) pe_str (pv 9) (by rfl))))) (pss_cons (ps_set (i := 12) sc_law_mesh_right.nd rfl (by first | exact Or.inl rfl | exact Or.inr rfl) (pe_lc (own := [("_law_row", 13)]) rfl sc_law_mesh_right.nd (pi_list (pv 10)) (blkOk_by (N := N_law_mesh_right) (sc := defScope s_law_mesh_right) (by decide +kernel)) (fun _ _ _ _ _ => (pg_name (i := 13) sc_law_mesh_right.nd rfl (by first | exact Or.inl rfl | exact Or.inr rfl))) (fun _ _ _ _ _ => (pts_one (pt_cmpR (op_inK K) pe_str (pe_slice (sl_tupK K) (pv 13) (po_some pe_int) (po_some pe_int)) (by rfl)))) (fun _ _ _ _ _ => (pe_ix (ix_tupK K) (pv 13) pe_int (fun _ _ => rfl)))))
      (pss_cons (ps_if (pt_cmpR (op_neDK K hr.units) (pe_meth (pv 6) (Tc_Mesh T) (Tm_Mesh_drop_name T) c_Mesh_drop_name.1 (hr.mono (by decide)) c_Mesh_drop_name.2.1 .nil pass0 (pa_cons pe_str pa_nil)) (pv 12) (nomark _)) (pss_one (ps_ret pe_bl)) pss_nil)
      (pss_cons (ps_expr (pe_bm PySem.F.plainAttrs_list PySem.F.slot_list_remove PySem.F.type_list_remove (mt_removeD hr.units) (pv 9) (pa_cons pe_str pa_nil)))
      (pss_one (ps_setLc (i := 10) (own := [("_law_row", 13)]) rfl sc_law_mesh_right.nd rfl rfl (sw_true rfl rfl rfl (by decide +kernel)) (pi_list (pv 10)) (blkOk_by (N := N_law_mesh_right) (sc := defScope s_law_mesh_right) (by decide +kernel)) (fun _ _ _ _ _ => (pg_name (i := 13) sc_law_mesh_right.nd rfl (by first | exact Or.inl rfl | exact Or.inr rfl))) (fun _ _ _ _ _ => (pts_one (pt_cmpR (op_notInK K) (pe_ix (ix_tupK K) (pv 13) pe_int (fun _ _ => rfl)) (pv 12) (by rfl)))) (fun _ _ _ _ _ => (pv 13))))))) (pss_one (ps_if (PW.pt (pw_or (pt_cmpR op_gt (pe_callB (call_lenJ K) (by rfl) (Tf_len T) (by decide +kernel) (pa_cons (pv 10) pa_nil)) pe_int (nomark _)) (pw_or1 (PW.pt (pw_and (pt_cmpR op_gt (pe_callB (call_lenJ K) (by rfl) (Tf_len T) (by decide +kernel) (pa_cons (pv 10) pa_nil)) pe_int (nomark _)) (pw_and1 (pt_cmpR op_lt (pv 11) pe_int (nomark _)))))))) (pss_cons (ps_set (i := 12) sc_law_mesh_right.nd rfl (by first | exact Or.inl rfl | exact Or.inr rfl) (pe_ix (ix_listK K) (pv 10) (pe_call c_law_draw.1 (hr.mono (by decide)) rfl (Tg_law_draw T) c_law_draw.2.2 c_law_draw.2.1 .nil pass0 (pa_cons (pv 0) (pa_cons (pe_callB (call_lenJ K) (by rfl) (Tf_len T) (by decide +kernel) (pa_cons (pv 10) pa_nil)) pa_nil))) (fun _ _ => rfl)))
      (pss_cons (ps_expr (pe_meth (pv 6) (Tc_Mesh T) (Tm_Mesh_take T) c_Mesh_take.1 (hr.mono (by decide)) c_Mesh_take.2.1 .nil pass0 (pa_cons (pe_ix (ix_tupK K) (pv 12) pe_int (fun _ _ => rfl)) pa_nil)))
      (pss_one (ps_expr (pe_bm PySem.F.plainAttrs_list PySem.F.slot_list_remove PySem.F.type_list_remove (mt_removeD hr.units) (pv 10) (pa_cons (pv 12) pa_nil)))))) (pss_cons (ps_par (i := 14) (j := 15) (by rfl) sc_law_mesh_right.nd rfl rfl (by decide) rfl rfl (pa_cons (pe_ix (ix_listK K) (pv 9) (pe_call c_law_draw.1 (hr.mono (by decide)) rfl (Tg_law_draw T) c_law_draw.2.2 c_law_draw.2.1 .nil pass0 (pa_cons (pv 0) (pa_cons (pe_callB (call_lenJ K) (by rfl) (Tf_len T) (by decide +kernel) (pa_cons (pv 9) pa_nil)) pa_nil))) (fun _ _ => rfl)) (pa_cons (pe_ix (ix_listK K) (pv 9) (pe_call c_law_draw.1 (hr.mono (by decide)) rfl (Tg_law_draw T) c_law_draw.2.2 c_law_draw.2.1 .nil pass0 (pa_cons (pv 0) (pa_cons (pe_callB (call_lenJ K) (by rfl) (Tf_len T) (by decide +kernel) (pa_cons (pv 9) pa_nil)) pa_nil))) (fun _ _ => rfl)) pa_nil)) (by rfl))
      (pss_cons (ps_set (i := 16) sc_law_mesh_right.nd rfl (by first | exact Or.inl rfl | exact Or.inr rfl) (pe_call c_law_right_step.1 (hr.mono (by decide)) rfl (Tg_law_right_step T) c_law_right_step.2.2 c_law_right_step.2.1 .nil pass0 (pa_cons (pv 0) (pa_cons (pv 4) (pa_cons (pv 2) (pa_cons (pv 14) (pa_cons (pv 15) pa_nil)))))))
      (pss_cons (ps_if (pt_cmpR op_ne (pe_ix (ix_tupK K) (pe_meth (pv 6) (Tc_Mesh T) (Tm_Mesh_join T) c_Mesh_join.1 (hr.mono (by decide)) c_Mesh_join.2.1 .nil pass0 (pa_cons (pv 14) (pa_cons (pv 15) (pa_cons (pv 16) pa_nil)))) pe_int (fun _ _ => rfl)) (pv 3) (nomark _)) (pss_one (ps_ret pe_bl)) pss_nil)
      (pss_cons (ps_expr (pe_bm PySem.F.plainAttrs_list PySem.F.slot_list_append PySem.F.type_list_append mt_append (pv 10) (pa_cons (pe_tup (pa_cons (pv 3) (pa_cons (pv 14) (pa_cons (pv 15) (pa_cons (pv 16) pa_nil))))) pa_nil)))
      (pss_one (ps_set (i := 3) sc_law_mesh_right.nd rfl (by first | exact Or.inl rfl | exact Or.inr rfl) (pe_op op_add (pv 3) pe_int))))))))))))
      (pss_one (ps_expr (pe_bm PySem.F.plainAttrs_list PySem.F.slot_list_append PySem.F.type_list_append mt_append (pv 7) (pa_cons (pe_tup (pa_cons (pv 9) (pa_cons (pv 10) pa_nil))) pa_nil))))))))
      (pss_cons (ps_set (i := 17) sc_law_mesh_right.nd rfl (by first | exact Or.inl rfl | exact Or.inr rfl) (pe_op op_sub (pe_callB (call_lenJ K) (by rfl) (Tf_len T) (by decide +kernel) (pa_cons (pv 7) pa_nil)) pe_int))
      (pss_cons (ps_if (PW.pt (pw_or (pt_cmpR op_ne (pe_meth0 (pv 6) (Tc_Mesh T) (Tm_Mesh_moment T) c_Mesh_moment.1 (hr.mono (by decide)) c_Mesh_moment.2.1 .nil pass0) (pv 17) (nomark _)) (pw_or1 (pt_cmpR (op_neDK K hr.units) (pe_meth (pv 6) (Tc_Mesh T) (Tm_Mesh_times_together T) c_Mesh_times_together.1 (hr.mono (by decide)) c_Mesh_times_together.2.1 .nil pass0 (pa_cons pe_str (pa_cons pe_str pa_nil))) (pe_call c_law_times.1 (hr.mono (by decide)) rfl (Tg_law_times T) c_law_times.2.2 c_law_times.2.1 .nil pass0 (pa_cons (pv 7) (pa_cons pe_str (pa_cons pe_str pa_nil)))) (nomark _))))) (pss_one (ps_ret pe_bl)) pss_nil)
      (pss_cons (ps_for PassesOwn.never rfl (pi_list (pe_lst (pa_cons pe_int (pa_cons pe_int (pa_cons (pv 17) (pa_cons (pe_op op_sub (pv 17) pe_int) (pa_cons (pe_call c_law_draw.1 (hr.mono (by decide)) rfl (Tg_law_draw T) c_law_draw.2.2 c_law_draw.2.1 .nil pass0 (pa_cons (pv 0) (pa_cons (pv 17) pa_nil))) (pa_cons (pe_call c_law_draw.1 (hr.mono (by decide)) rfl (Tg_law_draw T) c_law_draw.2.2 c_law_draw.2.1 .nil pass0 (pa_cons (pv 0) (pa_cons (pv 17) pa_nil))) pa_nil)))))))) (pg_name (i := 18) sc_law_mesh_right.nd rfl (by first | exact Or.inl rfl | exact Or.inr rfl))
      (pss_one (ps_if (PW.pt (pw_and (pt_cmpR op_le pe_int (pv 18) (nomark _)) (pw_and1 (pt_not (pt_val (pe_call c_law_moment_right.1 (hr.mono (by decide)) rfl (Tg_law_moment_right T) c_law_moment_right.2.2 c_law_moment_right.2.1 .nil pass0 (pa_cons (pv 6) (pa_cons (pv 18) (pa_cons (pe_ix (ix_listK K) (pv 7) (pv 18) (fun _ _ => rfl)) pa_nil))))))))) (pss_one (ps_ret pe_bl)) pss_nil)))
      (pss_one (ps_ret pe_bl))))))))), ?_⟩)
  · obtain ⟨t, b, rfl, _⟩ := h
    rfl
  · obtain ⟨t, b, rfl, T0, hb, q⟩ := h
    obtain ⟨xt, ht0⟩ := T0.some
    walk_at "jrd"
    refine w_par3 ?_
    walk_at "jrd"
    have T1 := (T0.same he).same he_1
    refine r_draw T1 (by decide) (by decide) (by omega) fun r2 H3 g2 l2 f3 T3 => ?_
    obtain ⟨turn, htm, hti⟩ := pickI (is := [0, 1, 5]) g2 l2
    have ht01 : 0 ≤ turn ∧ turn ≤ 1000 := by
      simp only [List.mem_cons, List.not_mem_nil, or_false] at htm
      omega
    have hti' : atI [V.int 0, .int 1, .int 5] r2 = some (.int turn) := hti
    have np : p ≠ t := T0.ne hn
    have np1 : p_1 ≠ t := (T0.same he).ne hn_1
    walk_at "jrd"
    refine j_par3 ?_
    walk_at "jrd"
    have hN : H'_3 p_3 = some (.lst (N4.map V.str)) := hp_3
    have T3' := (T3.same he_2).same he_3
    have np3 : p_3 ≠ t := (T3.same he_2).ne hn_3
    have hnl : H'_3 p = _ := he_3 _ _ (he_2 _ _ (f3 _ _ (he_1 _ _ hp) np))
    refine lc_draw hN np3 (by decide +kernel) (by decide) T3' (by omega) (fun n => ⟨rfl, rfl⟩) (fun n H' Q b' hn T' hb' k => ?_) fun sd H4 sp hn4 f4 T4 hsd => ?_
    · walk_at "jrd"
      exact r_draw T' (by decide) (by decide) (by omega) fun r H2 g l f T => k r H2 f T
    have hnl4 : H4 p = _ := f4 _ _ hnl (by simpa using np)
    have nsd : sd ≠ t := T3'.ne hn4
    clear hnl hp hp_1 hp_2 hp_3 he he_1 he_2 he_3 f3 f4 T3 T3' T1 T0 ht0 hn hn_1 hn_2 hn_3 hN hn4
    walk_at "jrd"
    have hp4 : H'_4 p_4 = some (.lst ((["a", "bb", "c"] : List Str).map V.str)) := hp
    have T4' := T4.same he
    obtain ⟨x4, hx4⟩ := T4'.some
    have hsd4 : H'_4 sd = _ := he _ _ hsd
    have hnl5 : H'_4 p = some (.lst ((["a", "bb", "c"] : List Str).map V.str)) := he _ _ hnl4
    clear hsd hnl4 hp he hn T4
    refine r_make fun x dx H5 hn5 e5 hx => ?_
    have s5 : Same (rm [t] H'_4) H5 := fun b o h => e5 _ _ (rm_in _ _ _ _ h)
    have g5 : rm [t] H'_4 x = none := (rm_in _ _).free hn5
    have nxt : t ≠ x := ne_of_none hx4 hn5
    refine ⟨x, p_4, dx, ["a", "bb", "c"], turn, rm [t] H'_4, rfl, hx, s5, g5, e5 _ _ hp4, by decide +kernel, fun n hn => N4_ok n (by revert n; decide +kernel), by decide, fun H6 G6 pl ys f6 e6 g6 hys hpl6 lfs M6 => ⟨rfl, ?_⟩⟩
    have gt6 : G6 t = none := g6 t nxt (by rw [e5 _ _ hx4]; simp) (rm_no (by simp))
    have sd6 : G6 sd = _ := e6 _ _ ((rm_of (by simpa using nsd)).trans hsd4)
    have T6 : Tape H6 t _ := (T4'.same e5).stay fun o h => f6 _ _ h nxt
    have hnl6 : H6 p = _ := M6.sub _ _ (e6 _ _ ((rm_of (by simpa using np)).trans hnl5))
    have npl : t ≠ pl := fun z => by rw [← z, e5 _ _ hx4] at hpl6; cases hpl6
    clear lfs hx hp4 T4' hx4 hsd4 hnl5 hn5 e5 s5 g5 nxt f6 e6 g6 hpl6
    walk_at "jrd"
    have e68 : Same H6 H'_8 := ((he.trans he_1).trans he_2).trans he_3
    have L8 : LmAt K (rm [t, pl, p_8] H'_8) H'_8 t x pl p_8 sd turn sp ([] ++ [⟨ys, [], 0⟩]) [(["a", "bb", "c"], [])] [.ref p_7] (b + 5) := by
      obtain ⟨as, hpl, _, _⟩ := M6.past
      obtain ⟨x6, hx6⟩ := T6.some
      have n1 : t ≠ p_8 := ne_of_none (he_2 _ _ (he_1 _ _ (he _ _ hx6))) hn_3
      have n2 : pl ≠ p_8 := ne_of_none (he_2 _ _ (he_1 _ _ (he _ _ hpl))) hn_3
      have sub : Same G6 (rm [t, pl, p_8] H'_8) := rm_sub (M6.sub.trans e68) fun m hm => by
        simp only [List.mem_cons, List.not_mem_nil, or_false] at hm
        rcases hm with rfl | rfl | rfl
        · exact gt6
        · exact M6.gpl
        · exact (M6.sub.trans ((he.trans he_1).trans he_2)).free hn_3
      have out : ∀ {a : Addr}, a ≠ t → a ≠ pl → a ≠ p_8 → rm [t, pl, p_8] H'_8 a = H'_8 a := fun h1 h2 h3 => rm_of (by simp [h1, h2, h3])
      have k5 : H6 p_6 = none := he.free hn_1
      have k7 : H6 p_7 = none := (he.trans he_1).free hn_2
      refine ⟨(M6.same e68).regh sub (rm_in _ _) (rm_no (by simp)), sub _ _ sd6, T6.same e68, hp_3, LogAt.snoc (vs := []) (Ks := []) ⟨rfl, fun i v k h _ => by simp at h⟩ ⟨p_5, p_6, [], ?_, ?_, ?_, Tups.nil⟩, rm_no (by simp), rm_no (by simp), npl, n1, n2⟩
      · rw [out (T6.ne k7) (ne_of_none hpl k7).symm (ne_of_none hp_2 hn_3)]; exact he_3 _ _ hp_2
      · rw [out (T6.ne hn) (ne_of_none hpl hn).symm (ne_of_none (he_2 _ _ (he_1 _ _ hp)) hn_3)]; exact he_3 _ _ (he_2 _ _ (he_1 _ _ hp))
      · rw [out (T6.ne k5) (ne_of_none hpl k5).symm (ne_of_none (he_2 _ _ hp_1) hn_3)]; exact he_3 _ _ (he_2 _ _ hp_1)
    have P8 : LmP sp turn [] ⟨ys, [], 0⟩ [(["a", "bb", "c"], [])] := by
      refine ⟨fun j k E hk hE => ?_, rfl, fun E hE n hn => ?_, hys.mem_iff.mpr (by decide +kernel), fun r hr => (by cases hr), Nat.le_refl _⟩
      · have hj : j = 0 := by have := (List.getElem?_eq_some_iff.mp hk).1; simp at this; omega
        subst hj
        have e1 : ((["a", "bb", "c"] : List Str), ([] : List Row)) = k := by simpa using hk
        have e2 : (⟨ys, [], 0⟩ : SD) = E := by simpa using hE
        subst e1 e2
        exact ⟨hys.symm, rfl⟩
      · have : E = ⟨ys, [], 0⟩ := by simpa using hE
        subst this
        have := hys.mem_iff.mp hn
        revert this; revert n; 
        intro n _ h
        unfold N4
        simp only [List.mem_cons, List.not_mem_nil, or_false] at h ⊢
        rcases h with h | h | h
        · exact .inl h
        · exact .inr (.inl h)
        · exact .inr (.inr (.inl h))
    generalize p_8 = ll at *
    clear hn hn_1 hn_2 hn_3 he he_1 he_2 he_3 hp hp_1 hp_2 hp_3 M6 T6 sd6 hnl6 gt6 e68 npl np3 nsd np np1
    refine r_draw L8.tape (by decide) (by decide) (by omega) fun r3 H9 g3 l3 f9 T9 => ?_
    have L9 := L8.draw f9 T9
    clear L8 f9 T9
    walk_at "jrd"
    refine r_rng1 (by omega) (by omega) ?_
    refine loop_range (fun i σ H2 => ∃ (G : Hp) (Ss : List SD) (D : SD) (Ks : List (List Str × List Row)) (ls : List V) (b' : Nat) (v5 v8 v9 v10 v11 v12 v13 v14 v15 v16 v17 v18 : Option V),
      σ = [some (.ref t), some (.ref p), some (.int turn), some (.int (D.coming : Nat)), some (.ref sd), v5, some (.ref x), some (.ref ll), v8, v9, v10, v11, v12, v13, v14, v15, v16, v17, v18] ∧ LmAt K G H2 t x pl ll sd turn sp (Ss ++ [D]) Ks ls b' ∧ LmP sp turn Ss D Ks ∧ Ss.length = i ∧ b' ≤ 1000 + 10 * i)
      ⟨_, [], _, _, _, _, _, _, _, _, _, _, _, _, _, _, _, _, rfl, L9, P8, rfl, by omega⟩ ?_ ?_
    · clear L9 P8 hys H' H'_1 H3 H4 H5 H6 G6 H'_2 H'_3 H'_4 H'_5 H'_6 H'_7 H'_8 p_1 p_2 p_3 p_4 p_5 p_6 p_7 x4 xt hti hti' 
      rintro i σ H1 hi ⟨G, Ss, D, Ks, ls, b', v5, v8, v9, v10, v11, v12, v13, v14, v15, v16, v17, v18, rfl, L, PP, hSi, hb'⟩
      obtain ⟨Ks, ns, rows, rfl, hperm, rfl⟩ := PP.lastK
      obtain ⟨ls, kt, rfl, nl0, rl0, ws, k1, k2, k3, k4⟩ := L.kept.last
      have k1 := L.mesh.sub _ _ k1
      have k2 := L.mesh.sub _ _ k2
      have k3 := L.mesh.sub _ _ k3
      have k4 := k4.stay (Same.tups L.mesh.sub)
      have hl := L.log
      walk_at "jrd"
      have A := L.begins (nl := p_1) (rl := p_2) (he.trans he_1) hn (he.free hn_1) (ne_of_none hp hn_1).symm (he_1 _ _ hp) hp_1 (k4.stay (Same.tups (he.trans he_1)))
      have ok := L.mesh.lastOk
      have few := names_few ok (PP.nam D (by simp))
      have hnd : ns.Nodup := hperm.nodup_iff.mpr ok.nd
      have flN : ∀ v ∈ ns.map V.str, flV v = true := fl_strs' fun n hn => N4_ok n (PP.nam D (by simp) n (hperm.mem_iff.mp hn))
      have flR := fl_encN ok.inn fun n hn => N4_ok n (PP.nam D (by simp) n hn)
      have hco := PP.co
      have lsl : (ls ++ [V.ref kt]).length = i + 1 := by rw [L.kept.1, PP.klen, hSi]
      have rlen := ok.len
      generalize p_1 = nl at *
      generalize p_2 = rl at *
      clear hn hn_1 he he_1 hp hp_1 k1 k2 k3 k4 hl L
      refine r_draw A.tape (by decide) (by decide) (by omega) fun r4 H4 g4 l4 f4 T4 => ?_
      replace A := A.draw f4 T4
      clear f4 T4
      clear k1 k2 k3 k4 p_1 p_2 H' H'_1 p_8 H9 ws nl0 rl0
      refine w_gname ?_
      refine w_seqK (fun σ H5 => ∃ (G' : Hp) (rl : Addr) (D' : SD) (ns' : List Str) (rows' : List Row) (b5 : Nat) (v5 v8 v11 v12 v13 v14 v15 v16 v17 v18 : Option V), σ = [some (.ref t), some (.ref p), some (.int turn), some (.int (D'.coming : Nat)), some (.ref sd), v5, some (.ref x), some (.ref ll), v8, some (.ref nl), some (.ref rl), v11, v12, v13, v14, v15, v16, v17, v18] ∧
        TnAt K G' H5 t x pl ll sd nl rl turn sp (Ss ++ [D] ++ [D']) (Ks ++ [(ns, D.rows)]) (ls ++ [V.ref kt]) b5 ns' rows' ∧ b5 ≤ b' + 10 ∧ ns'.Perm D'.names ∧ rows' = D'.rows ∧ (∀ n ∈ D'.names, n ∈ N4) ∧ ("a" : Str) ∈ D'.names ∧ Right sp turn D' ∧ D'.coming ≤ D.coming + 1) ?_ ?_
      · clear A
        rintro σ H5 ⟨G', rl, D', ns', rows', b5, v5, v8, v11, v12, v13, v14, v15, v16, v17, v18, rfl, A, hb5, e1, e2, e3, e4, e5, e6⟩
        have hl := A.log
        walk_at "jrd"
        exact ⟨_, Ss ++ [D], D', _, _, b5, _, _, _, _, _, _, _, _, _, _, _, _, rfl, A.ends he hp hn hf hp_1, PP.next e1 e2 e3 e4 e5 e6, by simp; omega, by omega⟩
      · intro key
        have hnl := A.now
        refine w_ifV (fun H5 => H5 = H4 ∧ ¬ ("d" : Str) ∈ ns) (fun H5 => H5 = H4) ?_ ?_ ?_
        · rintro H5 ⟨rfl, hd⟩
          obtain ⟨dx, fs, i1, i2, _, _⟩ := A.mesh.ins
          have j1 := A.mesh.sub _ _ i1
          walk_at "jrd"
          refine ⟨x, pl, "d", turn, Ss, D, G, rfl, A.mesh, N4_ok _ (by decide +kernel), fun z => hd (hperm.mem_iff.mpr z), by omega, by omega, fun H6 G6 ys' f6 g6 hys M6 => ?_⟩
          have A6 := A.meshc f6 g6 M6
          have hnl6 := A6.now
          have nsl : ns.length ≤ 4 := by rw [hperm.length_eq]; exact few
          clear j1 hnl
          walk_at "jrd"
          have A7 := A6.nowc (ns' := ns ++ [("d" : Str)]) hf (by rw [hp, List.map_append]; rfl)
          refine key _ _ ⟨G6, rl, ⟨ys', D.rows, D.coming⟩, _, _, _, _, _, _, _, _, _, _, _, _, _, rfl, A7, by omega, (hperm.append_right _).trans hys.symm, rfl, fun n hn => ?_, hys.mem_iff.mpr (List.mem_append_left _ PP.aIn), PP.right, Nat.le_succ _⟩
          rcases List.mem_append.mp (hys.mem_iff.mp hn) with z | z
          · exact PP.nam D (by simp) n z
          · have : n = "d" := by simpa using z
            subst this; decide +kernel
        · rintro H5 rfl
          refine w_ifV (fun H6 => H6 = H5 ∧ ("d" : Str) ∈ ns) (fun H6 => H6 = H5) ?_ ?_ ?_
          · rintro H5 ⟨rfl, hd⟩
            obtain ⟨ws2, hrl, trw⟩ := A.rws
            have lw := trw.1
            walk_at "jrd"
            refine lc_M [] walk_list (fun H' f => SqL.of (frM_nil f _ _ hrl)) (by omega) (by simp) (fun i acc H' => acc = intsN (((D.rows.take i).filter fun r => r.2.1 = ("d" : Str) ∨ r.2.2.1 = ("d" : Str)).map (·.1))) rfl (fun i acc H1 H2 p t m => p) ?_ ?_
            · rintro i y acc H6 H6' KY KN hi rfl f6 ⟨rfl, hy⟩ hacc hY hN
              have e6 := frM_nil f6
              obtain ⟨r, tt, hr, rfl, ht⟩ := (trw.stay (Same.tups e6)).2 i y hy
              rw [take_more hr, List.filter_append, List.map_append] at hY hN
              unfold encN at ht
              clear f6
              walk_at "jrd"
              refine ⟨rfl, ?_⟩
              walk_at "jrd"
              refine r_inT hp rfl rfl ?_
              rw [inV_two]
              walk_at "jrd"
              refine ite_of (fun z => ?_) (fun z => ?_)
              · walk_at "jrd"
                refine hY _ _ (Same.frM he) ?_
                rw [List.filter_cons_of_pos (by simpa using z)]
                unfold intsN; simp
              · refine hN _ (Same.frM he) ?_
                rw [List.filter_cons_of_neg (by simpa using z)]; simp
            · rintro acc gl H6 hD f hp rfl _
              rw [List.take_of_length_le (by omega)] at hp
              have hp : H6 gl = some (.lst (intsN (D.at "d"))) := hp
              have e6 := frM_nil f
              have A6 := A.same e6
              obtain ⟨o1, o2, o3, o4, o5, o6⟩ := A.old (H0 := H6) hD
              clear f e6 hrl trw lw
              obtain ⟨dx, fs, i1, i2, _, _⟩ := A6.mesh.ins
              have j1 := A6.mesh.sub _ _ i1
              walk_at "jrd"
              refine ⟨x, pl, "d", turn, Ss, D, G, rfl, A6.mesh, hperm.mem_iff.mp hd, by omega, fun p7 H7 G7 hn7 f7 g7 M7 h7 => ?_⟩
              have A7 := A6.meshc f7 g7 M7
              have hg7 : H7 gl = _ := f7 _ _ hp o2
              have hnl7 := A7.now
              clear j1 hp hnl
              walk_at "jrd"
              refine r_neSame (dp_lst h7 (fl_intsN _)) (dp_lst hg7 (fl_intsN _)) (ly_lst (fl_intsN _)) (by decide) ?_
              walk_at "jrd"
              refine ite_F rfl ?_
              walk_at "jrd"
              refine r_remStr hnl7 flN hnd hd fun H8 ns' f8 h8 hp8 => ?_
              have A8 := A7.nowc f8 h8
              have hg8 : H8 gl = _ := f8 _ _ hg7 o4
              obtain ⟨ws8, hrl8, trw8⟩ := A8.rws
              have lw8 := trw8.1
              clear hg7 hnl7 h7 f8 f7
              walk_at "jrd"
              refine lc_M [] walk_list (fun H' f => SqL.of (frM_nil f _ _ hrl8)) (by omega) (by simp) (fun i acc H' => Tups H' encN acc ((D.rows.take i).filter fun r => ¬ r.1 ∈ D.at "d")) Tups.nil (fun i acc H1 H2 p t m => p.stay t) ?_ ?_
              · rintro i y acc H9 H9' KY KN hi t9 f9 ⟨rfl, hy⟩ hacc hY hN
                have e9 := frM_nil f9
                obtain ⟨r, tt, hr, rfl, ht⟩ := (trw8.stay (Same.tups e9)).2 i y hy
                rw [take_more hr, List.filter_append] at hY hN
                have ht' := ht
                have hg9 := e9 _ _ hg8
                unfold encN at ht
                clear f9 hg8
                walk_at "jrd"
                refine ⟨rfl, ?_⟩
                walk_at "jrd"
                refine r_ninL hg9 rfl (fl_ints _) ?_
                rw [inV_ints]
                walk_at "jrd"
                refine ite_nof (fun z => ?_) (fun z => ?_)
                · walk_at "jrd"
                  refine hY _ _ (FrM.refl _ _) ?_
                  rw [List.filter_cons_of_pos (by simpa using z)]
                  exact t9.snoc ht'
                · refine hN _ (FrM.refl _ _) ?_
                  rw [List.filter_cons_of_neg (by simpa using z)]
                  simpa using t9
              · rintro acc rl2 H9 hD9 f9 hp9 t9 _
                rw [List.take_of_length_le (by omega)] at t9
                have A9 := A8.same (frM_nil f9)
                obtain ⟨u1, u2, u3, u4, u5, u6⟩ := A8.old (H0 := H9) hD9
                have A10 := A9.rows2 hp9 t9 u6 u1 u2 u3 u4
                walk_at "jrd"
                refine key _ _ ⟨G7, rl2, D.drop "d", _, _, _, _, _, _, _, _, _, _, _, _, _, rfl, A10, by omega, hp8.trans ?_, ok.lessAt "d", fun n hn => PP.nam D (by simp) n (List.mem_filter.mp hn).1, List.mem_filter.mpr ⟨PP.aIn, by decide +kernel⟩, PP.right.sub fun r hr => (List.mem_filter.mp hr).1, Nat.le_succ _⟩
                exact hperm.filter _
          · rintro H5 rfl
            refine w_ifV (fun H6 => H6 = H5 ∧ 0 < D.rows.length) (fun H6 => H6 = H5 ∧ D.rows.length ≤ 139) ?_ ?_ ?_
            · rintro H5 ⟨rfl, hd⟩
              obtain ⟨ws2, hrl, trw⟩ := A.rws
              have lw := trw.1
              walk_at "jrd"
              refine r_draw A.tape (by omega) (by omega) (by omega) fun r5 H7 g5 l5 f7 T7 => ?_
              obtain ⟨v, hv1, hv2⟩ := pickV g5 l5
              obtain ⟨xt, hxt⟩ := A.tape.some
              have tt7 : TupS _ H7 := Fr1.tups f7 hxt (by intro xs z; cases z)
              have hrl7 : H7 rl = _ := f7 _ _ hrl A.rt
              have trw7 := trw.stay tt7
              have A7 := A.draw f7 T7
              obtain ⟨r, tt, hr, rfl, ht⟩ := trw7.2 _ v hv1
              have ht' := ht
              unfold encN at ht
              obtain ⟨dx, fs, i1, i2, _, _⟩ := A7.mesh.ins
              have j1 := A7.mesh.sub _ _ i1
              clear hrl trw f7 T7 A hxt
              walk_at "jrd"
              refine ⟨x, pl, r.1, turn, Ss, D, G, rfl, A7.mesh, List.mem_map.mpr ⟨r, List.mem_of_getElem? hr, rfl⟩, by omega, fun q8 H8 G8 f8 g8 M8 _ => ?_⟩
              have A8 := A7.meshc f8 g8 M8
              have hrl8 : H8 rl = _ := f8 _ _ hrl7 A7.rp
              obtain ⟨as, hpl, _, _⟩ := A7.mesh.past
              have tt8 : TupS H7 H8 := Fr1.tups f8 hpl (by intro xs z; cases z)
              have trw8 := trw7.stay tt8
              have ht8 := tt8 _ _ ht'
              clear f8 hpl j1 ht
              walk_at "jrd"
              refine r_remRow hrl8 trw8 flR ok.nodup hr ht8 fun H9 f9 h9 => ?_
              have tt9 : TupS H8 H9 := Fr1.tups f9 hrl8 (by intro xs z; cases z)
              have A9 := A8.rwsc f9 h9 ((trw8.stay tt9).erase _)
              exact key _ _ ⟨G8, rl, D.less r.1, _, _, _, _, _, _, _, _, _, _, _, _, _, rfl, A9, by omega, hperm, erase_filter ok.nodup hr, fun n hn => PP.nam D (by simp) n hn, PP.aIn, PP.right.sub fun r hr => (List.mem_filter.mp hr).1, Nat.le_succ _⟩
            · rintro H6 ⟨rfl, hd⟩
              have nsl : ns.length ≤ 4 := by rw [hperm.length_eq]; exact few
              have ns0 : 0 < ns.length := List.length_pos_of_mem (hperm.mem_iff.mpr PP.aIn)
              have inN : ∀ n ∈ ns, n ∈ N4 := fun n hn => PP.nam D (by simp) n (hperm.mem_iff.mp hn)
              walk_at "jrd"
              refine r_draw A.tape (by simp; omega) (by simp; omega) (by omega) fun r5 H7 g5 l5 f7 T7 => ?_
              obtain ⟨o, ho, ho1, ho2⟩ := pick g5 (by simpa using l5)
              have A7 := A.draw f7 T7
              have hnl7 := A7.now
              clear hnl f7 T7
              walk_at "jrd"
              refine r_draw A7.tape (by simp; omega) (by simp; omega) (by omega) fun r6 H8 g6 l6 f8 T8 => ?_
              obtain ⟨p', hp', hp1, hp2⟩ := pick g6 (by simpa using l6)
              have A8 := A7.draw f8 T8
              have hnl8 := A8.now
              clear hnl7 f8 T8 A A7
              walk_at "jrd"
              refine ⟨t, sd, turn, o, p', _, N4, sp, rfl, A8.tape, by omega, A8.mesh.sub _ _ A8.sdv, inN o ho, inN p' hp', ht01.1, ht01.2, fun d H9 d0 d1 f9 T9 => ?_⟩
              have A9 := A8.draw f9 T9
              obtain ⟨dx, fs, i1, i2, _, _⟩ := A9.mesh.ins
              have j1 := A9.mesh.sub _ _ i1
              clear hnl8 f9 T9 A8
              walk_at "jrd"
              refine ⟨x, pl, o, p', _, turn, Ss, D, G, sp, rfl, A9.mesh, hperm.mem_iff.mp ho, hperm.mem_iff.mp hp', PP.right, ht01.1, ?_, by omega, by omega, fun q8 H10 G10 f10 g10 M10 h10 => ?_⟩
              · rw [show sp p' - sp o + turn * d - (sp p' - sp o) = turn * d by omega]
                exact Int.mul_emod_right _ _
              have A10 := A9.meshc f10 g10 M10
              obtain ⟨ws2, hrl, trw⟩ := A10.rws
              have lw := trw.1
              clear j1 f10 A9
              walk_at "jrd"
              refine ite_F (by simp) ?_
              walk_at "jrd"
              have tt : TupS _ H'_1 := Fr1.tups hf (he _ _ hrl) (by intro xs z; cases z)
              have A11 := (A10.same he).rwsc hf hp_1 (Tups.snoc (x := (D.coming, o, p', sp p' - sp o + turn * d)) ((trw.stay (Same.tups he)).stay tt) (tt _ _ hp))
              refine key _ _ ⟨G10, rl, D.more (o, p', sp p' - sp o + turn * d), _, _, _, _, _, _, _, _, _, _, _, _, _, rfl, A11, by omega, hperm, rfl, fun n hn => PP.nam D (by simp) n hn, PP.aIn, fun r hr => ?_, Nat.le_refl _⟩
              rcases List.mem_append.mp hr with z | z
              · exact PP.right r z
              · have : r = (D.coming, o, p', sp p' - sp o + turn * d) := by simpa using z
                subst this
                show (sp p' - sp o + turn * d - (sp p' - sp o)) % turn = 0
                rw [show sp p' - sp o + turn * d - (sp p' - sp o) = turn * d by omega]
                exact Int.mul_emod_right _ _
            · intro kt1 kt2
              obtain ⟨ws2, hrl, trw⟩ := A.rws
              have lw := trw.1
              walk_at "jrd"
              refine ite_of (fun z => kt1 _ ⟨rfl, by omega⟩) (fun z => ?_)
              walk_at "jrd"
              refine ite_of (fun z2 => ?_) (fun z2 => kt2 _ ⟨rfl, by omega⟩)
              walk_at "jrd"
              exact ite_of (fun z => kt1 _ ⟨rfl, by omega⟩) (fun z => kt2 _ ⟨rfl, by omega⟩)
          · intro kt1 kt2
            walk_at "jrd"
            refine ite_of (fun z => ?_) (fun z => kt2 _ rfl)
            walk_at "jrd"
            refine r_inL hnl rfl (fl_strs _) ?_
            rw [inV_strs]
            walk_at "jrd"
            exact ite_of (fun z => kt1 _ ⟨rfl, z⟩) (fun z => kt2 _ rfl)
        · intro kt1 kt2
          walk_at "jrd"
          refine ite_of (fun z => ?_) (fun z => kt2 _ rfl)
          walk_at "jrd"
          refine r_ninL hnl rfl (fl_strs _) ?_
          rw [inV_strs]
          walk_at "jrd"
          exact ite_nof (fun z => kt1 _ ⟨rfl, z⟩) (fun z => kt2 _ rfl)
    · clear L9 P8 hys
      rintro σ H2 ⟨G, Ss, D, Ks, ls, b', v5, v8, v9, v10, v11, v12, v13, v14, v15, v16, v17, v18, rfl, L, PP, hSi, hb'⟩
      have hl := L.log
      have lsl : ls.length = Ss.length + 1 := by rw [L.kept.1, PP.klen]
      obtain ⟨dx, fs, i1, i2, _, _⟩ := L.mesh.ins
      have j1 := L.mesh.sub _ _ i1
      obtain ⟨as, _, hasl, hS⟩ := L.mesh.past
      have oks : ∀ (j : Nat) (E : SD), (Ss ++ [D])[j]? = some E → E.Ok := fun j E hE => by
        have hj := (List.getElem?_eq_some_iff.mp hE).1
        exact (hS j (as[j]'(by omega)) E (List.getElem?_eq_getElem _) hE).ok
      walk_at "jrd"
      refine ⟨x, pl, turn, Ss ++ [D], G, rfl, L.mesh, ?_⟩
      walk_at "jrd"
      refine ite_F (by simp; omega) ?_
      walk_at "jrd"
      refine ⟨x, pl, "a", "c", turn, Ss ++ [D], G, rfl, L.mesh, fun q3 w3 H3 hn3 e3 h3 t3 => ?_⟩
      have L3 := L.same e3
      have hl3 := L3.log
      clear hl j1
      walk_at "jrd"
      refine ⟨ll, "a", "c", ls, Ks, rfl, hl3, L3.kept.same L3.mesh.sub, PP.kok oks, by rw [PP.klen]; omega, fun q4 w4 H4 hn4 e4 h4 t4 => ?_⟩
      rw [PP.togs "a" "c"] at t4
      have flT : ∀ x ∈ stretch ((Ss ++ [D]).map (togD "a" "c")), ∀ v ∈ encT x, flV v = true := fun x _ v hv => by
        simp only [encT, List.mem_cons, List.not_mem_nil, or_false] at hv
        rcases hv with rfl | rfl <;> rfl
      walk_at "jrd"
      refine r_neSame (dp_tups (e4 _ _ h3) (t3.stay (Same.tups e4)) flT) (dp_tups h4 t4 flT) (ly_tups flT) (by decide) ?_
      have L4 := L3.same e4
      clear t3 t4 h3 h4 hl3 e3 e4 hn3 hn4 L L3
      walk_at "jrd"
      refine ite_F rfl ?_
      walk_at "jrd"
      have l0 : (ls.length : Int) - 1 = (Ss.length : Nat) := by omega
      rw [l0]
      refine r_draw L4.tape (by omega) (by omega) (by omega) fun r5 H5 g5 l5 f5 T5 => ?_
      have L5 := L4.draw f5 T5
      clear L4 f5 T5
      walk_at "jrd"
      refine r_draw L5.tape (by omega) (by omega) (by omega) fun r6 H6 g6 l6 f6 T6 => ?_
      have L6 := L5.draw f6 T6
      clear L5 f6 T6
      walk_at "jrd"
      have L6' := L6.same he
      refine loop_list (xs := ([0, 1, ((Ss.length : Nat) : Int), ((Ss.length : Nat) : Int) - 256, r5, r6] : List Int).map V.int) (fun i σ H7 => Same H'_9 H7 ∧ ∃ v18, σ = [some (.ref t), some (.ref p), some (.int turn), some (.int (D.coming : Nat)), some (.ref sd), v5, some (.ref x), some (.ref ll), v8, v9, v10, v11, v12, v13, v14, v15, v16, some (.int (Ss.length : Nat)), v18]) ⟨fun _ _ h => h, _, rfl⟩ (fun i σ H7 _ p => p.1 _ _ hp) ?_ ?_
      · clear he L6 hp
        rintro i y σ H7 hi ⟨e7, v, rfl⟩
        rw [List.getElem?_map, Option.map_eq_some_iff] at hi
        obtain ⟨m, hm, rfl⟩ := hi
        have hm2 : m ≤ (Ss.length : Nat) := by
          have := List.mem_of_getElem? hm
          simp only [List.mem_cons, List.not_mem_nil, or_false] at this
          omega
        have L7 := L6'.same e7
        have hl7 := L7.log
        walk_at "jrd"
        refine ite_of (fun z => ?_) (fun z => ?_)
        · obtain ⟨j, rfl⟩ := Int.eq_ofNat_of_zero_le z
          have hj1 : j < ls.length := by omega
          have hj2 : j < Ks.length := by rw [PP.klen]; omega
          have hj3 : j < (Ss ++ [D]).length := by simp; omega
          obtain ⟨kt, hkt, hkept⟩ := L7.kept.2 j _ _ (List.getElem?_eq_getElem hj1) (List.getElem?_eq_getElem hj2)
          obtain ⟨r1, r2'⟩ := PP.rel j _ _ (List.getElem?_eq_getElem hj2) (List.getElem?_eq_getElem hj3)
          have hlj : ls[j]? = some (.ref kt) := by rw [List.getElem?_eq_getElem hj1, hkt]
          walk_at "jrd"
          refine ⟨x, pl, kt, j, turn, Ss ++ [D], _, G, _, rfl, L7.mesh, List.getElem?_eq_getElem hj3, r2' ▸ hkept.same L7.mesh.sub, r1, fun n hn => N4_ok n (PP.nam _ (List.getElem_mem hj3) n hn), fun H8 e8 => ?_⟩
          walk_at "jrd"
          refine ite_F rfl ?_
          walk_at "jrd"
          exact ⟨e7.trans e8, _, rfl⟩
        · refine ite_F rfl ?_
          walk_at "jrd"
          exact ⟨e7, _, rfl⟩
      · rintro σ H7 ⟨e7, v, rfl⟩
        walk_at "jrd"
        exact q _
end
section
variable {P : Program} {w : World} {K : PySem.W.Frag} {mg : Str → Option Value} {base : Heap}
open TL PySem.NumText
/-! ### numbers as words -/
def numS (i : Int) : Str := ((toString i : String) : Str)
theorem tl_nat (n : Nat) : tl (numS (n : Nat)) = numL n := tl_num n
theorem tl_neg (n : Nat) : tl (numS (-((n + 1 : Nat) : Int))) = 45 :: numL (n + 1) := by
  have h : tl (Str.ofString (toString ((n + 1 : Nat) : Int))) = numL (n + 1) := tl_num (n + 1)
  rw [tl_ofString] at h
  show tl (Str.ofString (toString (Int.negSucc n))) = _
  rw [tl_ofString, ← h]
  show (("-" : String) ++ toString (n + 1)).toList.map Char.toNat = 45 :: (toString (n + 1)).toList.map Char.toNat
  rw [String.toList_append, List.map_append]
  rfl
theorem numL_head : ∀ {n : Nat}, 0 < n → ∃ c r, numL n = c :: r ∧ c ≠ 48 := by
  intro n
  induction n using Nat.strongRecOn with
  | _ n ih =>
    intro h
    by_cases z : n < 10
    · exact ⟨48 + n, [], numL_lt z, by omega⟩
    · obtain ⟨c, r, e, ne⟩ := ih (n / 10) (by omega) (by omega)
      exact ⟨c, r ++ [48 + n % 10], by rw [numL_step (by omega), e]; rfl, ne⟩
theorem starts1 {x : Str} {a c : Nat} {r : List Nat} (h : tl x = a :: r) : Txt.startswith x ⟨#[c]⟩ = decide (a = c) := by
  have e : x = ⟨(a :: r).toArray⟩ := ext_tl h
  subst e
  unfold Txt.startswith PySem.Builtin.Str.subAt Str.length
  by_cases z : a = c
  · subst z; simp
  · simp [z]
theorem numL_few {n : Nat} (h : n ≤ 1000000000000) : (numL n).length ≤ 13 := numL_len (by decide) (by omega)
theorem dash : ("-" : Str) = ⟨#[45]⟩ := by decide +kernel
theorem num_cases (i : Int) : (∃ n : Nat, i = (n : Nat) ∧ i.natAbs = n ∧ tl (numS i) = numL n) ∨ ∃ n : Nat, i = -((n + 1 : Nat) : Int) ∧ i.natAbs = n + 1 ∧ tl (numS i) = 45 :: numL (n + 1) := by
  rcases Int.eq_nat_or_neg i with ⟨n, rfl | rfl⟩
  · exact .inl ⟨n, rfl, by omega, tl_nat n⟩
  · cases n with
    | zero => exact .inl ⟨0, by omega, by omega, tl_nat 0⟩
    | succ n => exact .inr ⟨n, rfl, by omega, tl_neg n⟩
theorem numS_len {i : Int} (h : i.natAbs ≤ 1000000000000) : (numS i).length ≤ 14 := by
  rw [len_tl]
  rcases num_cases i with ⟨n, _, h1, h2⟩ | ⟨n, _, h1, h2⟩
  · rw [h2]; have := numL_few (n := n) (by omega); omega
  · rw [h2]; have := numL_few (n := n + 1) (by omega); simp; omega
theorem numS_pos (i : Int) : 1 ≤ (numS i).length := by
  rw [len_tl]
  rcases num_cases i with ⟨n, _, h1, h2⟩ | ⟨n, _, h1, h2⟩
  · rw [h2]; have := numL_ne n; cases e : numL n with
    | nil => exact absurd e this
    | cons => simp
  · rw [h2]; simp
theorem int_of {f : Str} {n : Nat} (h : tl f = numL n) (hn : n ≤ 1000000000000) : PySem.intText? f = some ((n : Nat) : Int) := by
  have hl := numL_few hn
  have := PySem.intText_digits (x := f) (by show AllDigits (tl f); rw [h]; exact numL_digits n) (by show tl f ≠ []; rw [h]; exact numL_ne n) (by rw [len_tl, h]; omega)
  rw [this]
  show some (((digitsVal (tl f) : Nat)) : Int) = _
  rw [h, numL_val]
theorem int_numS {i : Int} (h : i.natAbs ≤ 1000000000000) : PySem.intText? (numS i) = some i := by
  rcases num_cases i with ⟨n, h0, h1, h2⟩ | ⟨n, h0, h1, h2⟩
  · rw [int_of h2 (by omega), h0]
  · have hl := numL_few (n := n + 1) (by omega)
    have := PySem.intText_neg (x := numS i) (cs := numL (n + 1)) h2 (numL_digits _) (numL_ne _) (by rw [len_tl, h2]; simp; omega)
    rw [this, numL_val, h0]
theorem fig_in {n c : Nat} (h : c ∈ numL n) : decide (c ∈ ("0123456789" : Str).cps.toList) = true := by
  obtain ⟨h1, h2⟩ := numL_digits n c h
  have : ∀ c < 58, 48 ≤ c → decide (c ∈ ("0123456789" : Str).cps.toList) = true := by decide +kernel
  exact this c (by omega) h1
def sp_number : Sp := fun vs H Q _ => ∃ (i : Int), vs = [.str (numS i)] ∧ i.natAbs ≤ 1000000000000 ∧ ∀ H', Same H H' → Q (.int i) H'
abbrev N_number_by : List Str := ["word", "figures", "sign"]
theorem sc_number_by : FnScope N_number_by ["word"] (defScope s_number_by) := ⟨rfl, rfl, rfl, by decide +kernel, rfl, by decide +kernel, by decide +kernel⟩
theorem ok_number_by (T : Txt w K mg) : OkF P w K mg base 1 (gA K "number_by") ["word"] sp_number := by
  obtain ⟨tk_FIGURES, hFIGURES⟩ := Ts_FIGURES T
  obtain ⟨tk_MOST, hMOST⟩ := Ti_MOST T
  obtain ⟨tk_MOST_FIGURES, hMOST_FIGURES⟩ := Ti_MOST_FIGURES T
  refine okF (Td_number_by T) sc_number_by (fun _ _ _ _ _ _ us hl => match us, hl with | [_], _ => rfl) (fun vs H Q E h => ?_) (fun cdv A outer s H vs Q E hr h => have hu := hu_of hr; ⟨_, (pss_cons (ps_set (i := 1) sc_number_by.nd rfl (by first | exact Or.inl rfl | exact Or.inr rfl) (pe_ifExp (pt_val (pe_m1 PySem.F.slot_str_startswith PySem.F.type_str_startswith mt_startsJ (pv 0) pe_str)) (pe_slice sl_str (pv 0) (po_some pe_int) po_none) (pv 0)))
      (pss_cons (ps_if (PW.pt (pw_or (pt_not (pt_chain op_le op_le pe_int (pe_callB call_lenSJ (by rfl) (Tf_len T) (by decide +kernel) (pa_cons (pv 1) pa_nil)) (pe_glob (v := .int 13) rfl hMOST_FIGURES ⟨_, rfl⟩))) (pw_or1 (pt_not (pt_val (pe_callB (cr_all rfl) (by rfl) (Tf_all T) (by decide +kernel) (pa_cons (pe_lc (own := [("sign", 2)]) (tt := tYes) rfl sc_number_by.nd (pi_str (pv 1)) (blkOk_by (N := N_number_by) (sc := defScope s_number_by) (by decide +kernel)) (fun _ _ _ _ _ => (pg_name (i := 2) sc_number_by.nd rfl (by first | exact Or.inl rfl | exact Or.inr rfl))) (fun _ _ _ _ _ => pts_nil) (fun _ _ _ _ _ => (pe_cmpR op_inSignJ (pv 2) (pe_glob (v := .str "0123456789") rfl hFIGURES ⟨_, rfl⟩) (by rfl)))) pa_nil))))))) (pss_one (ps_ret pe_non)) pss_nil)
      (pss_cons (ps_if (PW.pt (pw_or (PW.pt (pw_and (pt_cmpR op_eq (pe_ix ix_str (pv 1) pe_int (fun _ _ => rfl)) pe_str (nomark _)) (pw_and1 (pt_cmpR op_ne (pv 0) pe_str (nomark _))))) (pw_or1 (pt_cmpR op_gt (pe_callTy call_intJ (by rfl) (Tf_int T) (by decide +kernel) (pa_cons (pv 1) pa_nil)) (pe_glob (v := .int 1000000000000) rfl hMOST ⟨_, rfl⟩) (nomark _))))) (pss_one (ps_ret pe_non)) pss_nil)
      (pss_one (ps_ret (pe_callTy call_intJ (by rfl) (Tf_int T) (by decide +kernel) (pa_cons (pv 0) pa_nil))))))), ?_⟩)
  · obtain ⟨i, rfl, _⟩ := h
    rfl
  · obtain ⟨i, rfl, hi, q⟩ := h
    have hlw := numS_len hi
    refine w_seqK (fun σ H' => H' = H ∧ ∃ f v2, σ = [some (.str (numS i)), some (.str f), v2] ∧ tl f = numL i.natAbs) ?_ ?_
    · rintro σ H' ⟨rfl, f, v2, rfl, hf⟩
      have hl13 : f.length ≤ 13 := by rw [len_tl, hf]; exact numL_few hi
      have hl1 : 1 ≤ f.length := by
        rw [len_tl, hf]
        have := numL_ne i.natAbs
        cases e : numL i.natAbs with
        | nil => exact absurd e this
        | cons => simp
      walk_at "jrd"
      refine j_lenS (sz _ (by omega)) ?_
      walk_at "jrd"
      refine ite_T (decide_eq_true (by omega)) ?_
      walk_at "jrd"
      rw [decide_eq_true (by omega)]
      refine ite_F rfl ?_
      walk_at "jrd"
      refine lc_M [] walk_str (fun H' f => trivial) (by have : f.cps.size = f.length := rfl; omega) (by simp) (fun i acc H' => acc = List.replicate i (.bl true)) rfl (fun i acc H1 H2 p t m => p) ?_ ?_
      · rintro k y acc H3 H3' KY KN hk rfl f1 ⟨rfl, c, hc, rfl⟩ hacc hY hN
        walk_at "jrd"
        refine ⟨rfl, ?_⟩
        walk_at "jrd"
        refine ite_T rfl ?_
        walk_at "jrd"
        have hm : c ∈ tl f := List.mem_of_getElem? (by show f.cps.toList[k]? = some c; rw [Array.getElem?_toList]; exact hc)
        rw [hf] at hm
        refine hY _ _ (FrM.refl _ _) ?_
        rw [List.replicate_succ', fig_in hm]
      · rintro acc D H' hD fr hp rfl _
        refine j_all (bs := List.replicate f.cps.size true) (by rw [List.map_replicate]; exact hp) ?_
        have e : (List.replicate f.cps.size true).all id = true := by simp
        rw [e]
        walk_at "jrd"
        refine ite_F rfl ?_
        walk_at "jrd"
        obtain ⟨c, r, hcr, hc0⟩ : ∃ c r, tl f = c :: r ∧ (c = 48 → i = 0 ∧ numS i = "0") := by
          rw [hf]
          by_cases z : i.natAbs = 0
          · have : i = 0 := by omega
            subst this
            exact ⟨48, [], numL_lt (n := 0) (by decide), fun _ => ⟨rfl, by decide +kernel⟩⟩
          · obtain ⟨c, r, h1, h2⟩ := numL_head (n := i.natAbs) (by omega)
            exact ⟨c, r, h1, fun z => absurd z h2⟩
        refine ⟨f, 0, c, rfl, rfl, sz _ (by omega), by show atI (tl f) 0 = _; rw [hcr]; exact atI_nat (j := 0) rfl, ?_⟩
        have hint := int_of hf hi
        have hs := frM_nil fr
        have bnd : decide ((1000000000000 : Int) < ((i.natAbs : Nat) : Int)) = false := decide_eq_false (by omega)
        walk_at "jrd"
        refine ite_of (fun z => ?_) (fun z => ?_)
        · have hc : c = 48 := by
            have h1 : [c] = ("0" : Str).cps.toList := congrArg (fun s : Str => s.cps.toList) z
            have h2 : ("0" : Str).cps.toList = [48] := by decide +kernel
            rw [h2] at h1
            simpa using h1
          walk_at "jrd"
          refine ite_F (by rw [(hc0 hc).2]; decide +kernel) ?_
          walk_at "jrd"
          refine j_intS hint (by omega) ?_
          walk_at "jrd"
          refine ite_F bnd ?_
          walk_at "jrd"
          exact j_intS (int_numS hi) (by omega) (q _ hs)
        · refine ite_F rfl ?_
          walk_at "jrd"
          refine j_intS hint (by omega) ?_
          walk_at "jrd"
          refine ite_F bnd ?_
          walk_at "jrd"
          exact j_intS (int_numS hi) (by omega) (q _ hs)
    · intro key
      walk_at "jrd"
      rcases num_cases i with ⟨n, h0, h1, h2⟩ | ⟨n, h0, h1, h2⟩
      · obtain ⟨c, r, hcr, hcd⟩ : ∃ c r, numL n = c :: r ∧ ¬ c = 45 := by
          cases e : numL n with
          | nil => exact absurd e (numL_ne n)
          | cons c r => exact ⟨c, r, rfl, fun z => numL_free (n := n) (s := 45) (by decide) (by rw [e, z]; simp)⟩
        refine ite_F (by rw [dash, starts1 (h2.trans hcr)]; exact decide_eq_false hcd) ?_
        walk_at "jrd"
        exact key _ _ ⟨rfl, _, _, rfl, by rw [h2, h1]⟩
      · refine ite_T (by rw [dash, starts1 h2]; rfl) ?_
        walk_at "jrd"
        refine ⟨numS i, rfl, sz _ (by omega), ?_⟩
        walk_at "jrd"
        refine key _ _ ⟨rfl, _, _, rfl, ?_⟩
        rw [h1]
        show (((tl (numS i)).drop (HT.sIx (numS i).length 0 (some 1))).take (HT.sIx (numS i).length (numS i).length none - HT.sIx (numS i).length 0 (some 1))) = _
        rw [HT.sIx_none, show (some (1 : Int)) = some ((1 : Nat) : Int) from rfl, HT.sIx_nat, len_tl, h2]
        simp
end
section
variable {P : Program} {w : World} {K : PySem.W.Frag} {mg : Str → Option Value} {base : Heap}
/-! ### rows of a desk's text -/
inductive Part : Str → Str → V → Prop
  | name {z : Str} : IsNm z → Part "name" z (.str z)
  | step {i : Int} : i.natAbs ≤ 1000000000000 → Part "step" (numS i) (.int i)
  | turn {i : Int} : 0 ≤ i → i ≤ 1000 → Part "turn" (numS i) (.int i)
theorem Part.notNone {k z : Str} {v : V} (h : Part k z v) : v ≠ .non := by cases h <;> simp
theorem Part.flat {k z : Str} {v : V} (h : Part k z v) : flV v = true := by
  cases h with
  | name h => exact h.ok
  | step _ => rfl
  | turn _ _ => rfl
theorem Part.flt {k z : Str} {v : V} (h : Part k z v) : flatV v = true := by cases h <;> rfl
def Parts (ks zs : List Str) (vs : List V) : Prop := ks.length = zs.length ∧ vs.length = zs.length ∧ ∀ (i : Nat) (k z : Str) (v : V), ks[i]? = some k → zs[i]? = some z → vs[i]? = some v → Part k z v
def sp_part : Sp := fun vs H Q _ => ∃ (k z : Str) (v : V), vs = [.str k, .str z] ∧ Part k z v ∧ ∀ H', Same H H' → Q v H'
abbrev N_part_by : List Str := ["kind", "word", "number"]
theorem sc_part_by : FnScope N_part_by ["kind", "word"] (defScope s_part_by) := ⟨rfl, rfl, rfl, by decide +kernel, rfl, by decide +kernel, by decide +kernel⟩
theorem ok_part_by (T : Txt w K mg) : OkF P w K mg base 2 (gA K "part_by") ["kind", "word"] sp_part := by
  obtain ⟨fd_is_name, c_is_name⟩ := ok_is_name (P := P) (base := base) T
  obtain ⟨fd_number_by, c_number_by⟩ := ok_number_by (P := P) (base := base) T
  obtain ⟨tk_MOST_TURN, hMOST_TURN⟩ := Ti_MOST_TURN T
  refine okF (Td_part_by T) sc_part_by (fun _ _ _ _ _ _ us hl => match us, hl with | [_, _], _ => rfl) (fun vs H Q E h => ?_) (fun cdv A outer s H vs Q E hr h => have hu := hu_of hr; ⟨_, (pss_cons (ps_if (pt_cmpR op_eq (pv 0) pe_str (nomark _)) (pss_one (ps_ret (pe_ifExp (pt_val (pe_call c_is_name.1 (hr.mono (by decide)) rfl (Tg_is_name T) c_is_name.2.2 c_is_name.2.1 .nil pass0 (pa_cons (pv 1) pa_nil))) (pv 1) pe_non))) pss_nil)
      (pss_cons (ps_if (pt_cmpR op_eq (pv 0) pe_str (nomark _)) (pss_one ps_never) pss_nil)
      (pss_cons (ps_set (i := 2) sc_part_by.nd rfl (by first | exact Or.inl rfl | exact Or.inr rfl) (pe_call c_number_by.1 (hr.mono (by decide)) rfl (Tg_number_by T) c_number_by.2.2 c_number_by.2.1 .nil pass0 (pa_cons (pv 1) pa_nil)))
      (pss_cons (ps_if (PW.pt (pw_or (pt_cmp (pc_isN (pv 2))) (pw_or (PW.pt (pw_and (pt_cmpR op_ne (pv 0) pe_str (nomark _)) (pw_and1 (pt_cmpR op_lt (pv 2) pe_int (nomark _))))) (pw_or1 (PW.pt (pw_and (pt_cmpR op_eq (pv 0) pe_str (nomark _)) (pw_and1 (pt_cmpR op_gt (pv 2) (pe_glob (v := .int 1000) rfl hMOST_TURN ⟨_, rfl⟩) (nomark _))))))))) (pss_one (ps_ret pe_non)) pss_nil)
      (pss_one (ps_ret (pv 2))))))), ?_⟩)
  · obtain ⟨k, z, v, rfl, _⟩ := h
    rfl
  · obtain ⟨k, z, v, rfl, hp, q⟩ := h
    have em : ∀ {a b : Str} {P Q : Prop}, decide (a = b) = false → Q → if decide (a = b) = true then P else Q := fun h q => ite_F h q
    cases hp with
    | name hz =>
      walk_at "jrd"
      refine ite_T (by decide +kernel) ?_
      walk_at "jrd"
      refine ⟨z, rfl, hz, fun H1 e1 => ?_⟩
      walk_at "jrd"
      refine ite_T rfl ?_
      walk_at "jrd"
      exact q _ e1
    | @step i hi =>
      walk_at "jrd"
      refine ite_F (by decide +kernel) ?_
      walk_at "jrd"
      refine ite_F (by decide +kernel) ?_
      walk_at "jrd"
      refine ⟨i, rfl, hi, fun H1 e1 => ?_⟩
      walk_at "jrd"
      refine ite_F (by simp) ?_
      walk_at "jrd"
      refine ite_F (by decide +kernel) ?_
      walk_at "jrd"
      refine ite_F rfl ?_
      walk_at "jrd"
      refine ite_F (by decide +kernel) ?_
      refine ite_F rfl ?_
      walk_at "jrd"
      exact q _ e1
    | @turn i h0 h1 =>
      walk_at "jrd"
      refine ite_F (by decide +kernel) ?_
      walk_at "jrd"
      refine ite_F (by decide +kernel) ?_
      walk_at "jrd"
      refine ⟨i, rfl, by omega, fun H1 e1 => ?_⟩
      walk_at "jrd"
      refine ite_F (by simp) ?_
      walk_at "jrd"
      refine ite_T (by decide +kernel) ?_
      walk_at "jrd"
      refine ite_F (decide_eq_false (by omega)) ?_
      walk_at "jrd"
      refine ite_T (by decide +kernel) ?_
      walk_at "jrd"
      refine ite_F (decide_eq_false (by omega)) ?_
      walk_at "jrd"
      exact q _ e1
theorem zip_turn {K : PySem.W.Frag} {a b : Addr} {xs ys : List V} : Walk (ItzM K a b) (min xs.length ys.length) (fun H => SqT K H a xs ∧ SqL K H b ys) (fun i H v H' => ∃ T x y, v = .ref T ∧ H T = none ∧ H' = upd H T (.tup [x, y]) ∧ xs[i]? = some x ∧ ys[i]? = some y) := by
  refine ⟨fun i _ hi q => ?_, fun _ q => ⟨xs, ys, q.1, q.2, by omega⟩, fun i H v H' _ q y => ?_⟩
  · have h1 : i < xs.length := by omega
    have h2 : i < ys.length := by omega
    exact ⟨xs, ys, xs[i], ys[i], q.1, q.2, List.getElem?_eq_getElem h1, List.getElem?_eq_getElem h2⟩
  · obtain ⟨T, x, z, h1, h2, h3, h4, h5⟩ := y
    exact ⟨T, x, z, h1, h2, h3, h4 xs q.1, h5 ys q.2⟩
theorem noNone {vs : List V} (h : ∀ v ∈ vs, flatV v = true ∧ v ≠ .non) : vs.all flatV = true ∧ inV .non vs = false := by
  constructor
  · exact List.all_eq_true.mpr fun v hv => (h v hv).1
  · unfold inV
    rw [List.any_eq_false]
    intro v hv
    obtain ⟨h1, h2⟩ := h v hv
    cases v <;> simp_all [eqV, flatV]
def sp_parts (K : PySem.W.Frag) : Sp := fun vs H Q _ => ∃ (kt wl : Addr) (ks zs : List Str) (xs : List V), vs = [.ref kt, .ref wl] ∧ SqT K H kt (ks.map V.str) ∧ H wl = some (.lst (zs.map V.str)) ∧ Parts ks zs xs ∧ zs.length ≤ 10 ∧ ∀ p H', H p = none → Same H H' → H' p = some (.lst xs) → Q (.ref p) H'
abbrev N_parts_by : List Str := ["kinds", "words", "found", "kind", "word"]
theorem sc_parts_by : FnScope N_parts_by ["kinds", "words"] (defScope s_parts_by) := ⟨rfl, rfl, rfl, by decide +kernel, rfl, by decide +kernel, by decide +kernel⟩
theorem ok_parts_by (T : Txt w K mg) : OkF P w K mg base 3 (gA K "parts_by") ["kinds", "words"] (sp_parts K) := by
  obtain ⟨fd_part_by, c_part_by⟩ := ok_part_by (P := P) (base := base) T
  refine okF (Td_parts_by T) sc_parts_by (fun _ _ _ _ _ _ us hl => match us, hl with | [_, _], _ => rfl) (fun vs H Q E h => ?_) (fun cdv A outer s H vs Q E hr h => have hu := hu_of hr; ⟨_, (pss_cons (ps_if (pt_cmpR op_ne (pe_callB (call_lenJ K) (by rfl) (Tf_len T) (by decide +kernel) (pa_cons (pv 0) pa_nil)) (pe_callB (call_lenJ K) (by rfl) (Tf_len T) (by decide +kernel) (pa_cons (pv 1) pa_nil)) (nomark _)) (pss_one (ps_ret pe_non)) pss_nil)
      (pss_cons (ps_setLc (i := 2) (own := [("kind", 3), ("word", 4)]) (tt := tYes) rfl sc_parts_by.nd rfl rfl (sw_true rfl rfl rfl (by decide +kernel)) (pi_zipM (by rfl) (Tf_zip T) (pa_cons (pv 0) (pa_cons (pv 1) pa_nil))) (blkOk_by (N := N_parts_by) (sc := defScope s_parts_by) (by decide +kernel)) (fun _ _ _ _ _ => (pg_tupK K (n := 2) rfl (pgs_cons (pg_name (i := 3) sc_parts_by.nd rfl (by first | exact Or.inl rfl | exact Or.inr rfl)) (pgs_cons (pg_name (i := 4) sc_parts_by.nd rfl (by first | exact Or.inl rfl | exact Or.inr rfl)) pgs_nil)))) (fun _ _ _ _ _ => pts_nil) (fun _ _ _ _ _ => (pe_call c_part_by.1 (hr.mono (by decide)) rfl (Tg_part_by T) c_part_by.2.2 c_part_by.2.1 .nil pass0 (pa_cons (pv 3) (pa_cons (pv 4) pa_nil)))))
      (pss_cons (ps_if (pt_cmpR (op_inK K) pe_non (pv 2) (by rfl)) (pss_one (ps_ret pe_non)) pss_nil)
      (pss_one (ps_ret (pv 2)))))), ?_⟩)
  · obtain ⟨kt, wl, ks, zs, xs, rfl, _⟩ := h
    rfl
  · obtain ⟨kt, wl, ks, zs, xs, rfl, hk, hw, ⟨p1, p2, p3⟩, hl, q⟩ := h
    walk_at "jrd"
    refine ⟨kt, _, rfl, .inr hk, ?_⟩
    walk_at "jrd"
    refine ite_F (by simp [p1]) ?_
    walk_at "jrd"
    refine w_cons (w_var rfl (w_cons (w_var rfl (w_nil ⟨kt, wl, _, _, rfl, hk, SqL.of hw, ?_⟩))))
    have lz : min (ks.map V.str).length (zs.map V.str).length = zs.length := by simp; omega
    refine lc_M [] (lz ▸ zip_turn) (fun H' f => ⟨st_same (frM_nil f) hk, SqL.of (frM_nil f _ _ hw)⟩) (by omega) (by simp) (fun i acc H' => acc = xs.take i) rfl (fun i acc H1 H2 p t m => p) ?_ ?_
    · rintro i y acc H1 H1' KY KN hi rfl f1 ⟨T, x, z, rfl, hT, rfl, hx, hz⟩ hacc hY hN
      rw [List.getElem?_map, Option.map_eq_some_iff] at hx hz
      obtain ⟨k, hk', rfl⟩ := hx
      obtain ⟨z, hz', rfl⟩ := hz
      have hv : xs[i]? = some xs[i] := List.getElem?_eq_getElem (by omega)
      refine w_gtup (r_unp upd_same rfl (w_gcons (w_gname (w_gcons (w_gname (w_gnil ⟨rfl, ?_⟩))))))
      walk_at "jrd"
      refine ite_T rfl ?_
      walk_at "jrd"
      refine ⟨k, z, xs[i], rfl, p3 i k z _ hk' hz' hv, fun H4 e4 => hY _ H4 (Same.frM ((same_new hT).trans e4)) ?_⟩
      rw [take_more hv]
    · rintro acc D H' hD f hp rfl _
      rw [List.take_of_length_le (by omega)] at hp
      have fl : ∀ v ∈ xs, flatV v = true ∧ v ≠ .non := fun v hv => by
        obtain ⟨j, hj, rfl⟩ := List.mem_iff_getElem.mp hv
        have h := p3 j _ _ _ (List.getElem?_eq_getElem (by omega)) (List.getElem?_eq_getElem (by omega)) (List.getElem?_eq_getElem hj)
        exact ⟨h.flt, h.notNone⟩
      obtain ⟨n1, n2⟩ := noNone fl
      walk_at "jrd"
      refine r_inL hp rfl n1 ?_
      rw [n2]
      walk_at "jrd"
      refine ite_F rfl ?_
      walk_at "jrd"
      exact q _ _ hD (frM_nil f) hp
def forms : List (Str × List Str) := [("name", ["name"]), ("join", ["name", "name", "step"]), ("way", ["name", "name"])]
/-- a row that tells an order -/
structure RowOk (first : Bool) (row : Str) (o : Str × List V) : Prop where
  len : row.length ≤ 1000
  ne : row ≠ ""
  cut : ∃ ks zs, Txt.split row " " = o.1 :: zs ∧ Parts ks zs o.2 ∧ zs.length ≤ 10 ∧ ((first = true ∧ o.1 = "turn" ∧ ks = [("turn" : Str)]) ∨ (first = false ∧ (o.1, ks) ∈ forms))
def sp_order (K : PySem.W.Frag) : Sp := fun vs H Q _ => ∃ (row : Str) (first : Bool) (o : Str × List V), vs = [.str row, .bl first] ∧ RowOk first row o ∧ ∀ p l H', H p = none → H l = none → Same H H' → H' p = some (.tup [.str o.1, .ref l]) → H' l = some (.lst o.2) → Q (.ref p) H'
theorem form_at {w : World} {K : PySem.W.Frag} {mg : Str → Option Value} (T : Txt w K mg) {k : Str} {ks : List Str} (h : (k, ks) ∈ forms) : ∃ a, PySem.W.nsIn K (He.ga K "FORMS") k = some (some (.ref a)) ∧ ∀ H, SqT K H a (ks.map V.str) := by
  obtain ⟨h1, h2⟩ := Bool.and_eq_true_iff.mp T.f
  obtain ⟨h2, h3⟩ := Bool.and_eq_true_iff.mp h2
  simp only [forms, List.mem_cons, List.not_mem_nil, or_false, Prod.mk.injEq] at h
  rcases h with ⟨rfl, rfl⟩ | ⟨rfl, rfl⟩ | ⟨rfl, rfl⟩
  · exact formB_ok h1 (by decide)
  · exact formB_ok h2 (by decide)
  · exact formB_ok h3 (by decide)
def rFget (K : PySem.W.Frag) (d : Addr) (Q : VK) : VK := fun y H2 => ∃ (z : Str) (u : Value) (v : V), y = .str z ∧ PySem.W.nsIn K d z = some (some u) ∧ RelV v u ∧ Q v H2
theorem w_fget {K : PySem.W.Frag} {d : Addr} {ty : TE} {σ : L2.St} {H : Hp} {Q : VK} (k : ty σ H (rFget K d Q)) : tFormsGet K d ty σ H Q := k
abbrev N_order_by : List Str := ["row", "is_first", "words", "kinds", "found"]
theorem sc_order_by : FnScope N_order_by ["row", "is_first"] (defScope s_order_by) := ⟨rfl, rfl, rfl, by decide +kernel, rfl, by decide +kernel, by decide +kernel⟩
theorem ok_order_by (T : Txt w K mg) : OkF P w K mg base 4 (gA K "order_by") ["row", "is_first"] (sp_order K) := by
  obtain ⟨fd_parts_by, c_parts_by⟩ := ok_parts_by (P := P) (base := base) T
  obtain ⟨es_F, n_F, kdF⟩ := T.s.tab 0 (t := ((fun K => He.ga K "FORMS"), ts_keys)) rfl
  refine okF (Td_order_by T) sc_order_by (fun _ _ _ _ _ _ us hl => match us, hl with | [_, _], _ => rfl) (fun vs H Q E h => ?_) (fun cdv A outer s H vs Q E hr h => have hu := hu_of hr; ⟨_, (pss_cons (ps_set (i := 2) sc_order_by.nd rfl (by first | exact Or.inl rfl | exact Or.inr rfl) (pe_m1 PySem.F.slot_str_split PySem.F.type_str_split mt_splitJ (pv 0) pe_str))
      (pss_cons (ps_if (pt_val (pv 1)) (pss_one (ps_set (i := 3) sc_order_by.nd rfl (by first | exact Or.inl rfl | exact Or.inr rfl) (pe_ifExp (pt_cmpR op_eq (pe_ix (ix_listK K) (pv 2) pe_int (fun _ _ => rfl)) pe_str (nomark _)) (pe_tup (pa_cons pe_str pa_nil)) pe_non))) (pss_one (ps_set (i := 3) sc_order_by.nd rfl (by first | exact Or.inl rfl | exact Or.inr rfl) (pe_formsget (Tg_FORMS T) kdF (pe_ix (ix_listK K) (pv 2) pe_int (fun _ _ => rfl))))))
      (pss_cons (ps_set (i := 4) sc_order_by.nd rfl (by first | exact Or.inl rfl | exact Or.inr rfl) (pe_ifExp (pt_cmp (pc_isN (pv 3))) pe_non (pe_call c_parts_by.1 (hr.mono (by decide)) rfl (Tg_parts_by T) c_parts_by.2.2 c_parts_by.2.1 .nil pass0 (pa_cons (pv 3) (pa_cons (pe_slice (sl_listK K) (pv 2) (po_some pe_int) po_none) pa_nil)))))
      (pss_one (ps_ret (pe_ifExp (pt_cmp (pc_isN (pv 4))) pe_non (pe_tup (pa_cons (pe_ix (ix_listK K) (pv 2) pe_int (fun _ _ => rfl)) (pa_cons (pv 4) pa_nil))))))))), ?_⟩)
  · obtain ⟨row, first, o, rfl, _⟩ := h
    rfl
  · obtain ⟨row, first, o, rfl, ⟨hlen, hne, ks, zs, hs, hp, hz, hc⟩, q⟩ := h
    walk_at "jrd"
    refine j_split (by decide +kernel) (sz _ (by omega)) fun p H1 hn he hp1 => ?_
    rw [hs] at hp1
    replace hp1 : H1 p = some (.lst (.str o.1 :: zs.map V.str)) := hp1
    have ha : atI (V.str o.1 :: zs.map V.str) 0 = some (.str o.1) := atI_zero
    refine w_gname ?_
    refine w_seqK (fun σ H2 => Same H1 H2 ∧ ∃ kt v4, σ = [some (.str row), some (.bl first), some (.ref p), some (.ref kt), v4] ∧ SqT K H2 kt (ks.map V.str)) ?_ ?_
    · rintro σ H2 ⟨e2, kt, v4, rfl, hk⟩
      have hp2 := e2 _ _ hp1
      walk_at "jrd"
      refine ite_F (by simp) ?_
      walk_at "jrd"
      have hcut : cutV (V.str o.1 :: zs.map V.str) (some 1) none = zs.map V.str := by
        have := cutV_from (V.str o.1 :: zs.map V.str) 1
        rw [show ((1 : Nat) : Int) = 1 from rfl] at this
        rw [this]; rfl
      rw [hcut] at hp_1
      refine ⟨kt, p_1, ks, zs, o.2, rfl, st_same he_1 hk, hp_1, hp, hz, fun l H5 hn5 e5 h5 => ?_⟩
      have hp5 := e5 _ _ (he_1 _ _ hp2)
      have e15 := (e2.trans he_1).trans e5
      have hl : H l = none := ((he.trans e2).trans he_1).free hn5
      clear hp_1 hp2 he_1 e5 hp1
      walk_at "jrd"
      refine ite_F (by simp) ?_
      walk_at "jrd"
      exact q _ _ _ ((he.trans e15).free hn_2) hl ((he.trans e15).trans he_1) hp_1 (he_1 _ _ h5)
    · intro key
      rcases hc with ⟨rfl, ho, rfl⟩ | ⟨rfl, hf⟩
      · walk_at "jrd"
        refine ite_T rfl ?_
        walk_at "jrd"
        refine ite_T (decide_eq_true ho) ?_
        walk_at "jrd"
        exact key _ _ ⟨he_1, _, _, rfl, SqT.of hp_1⟩
      · obtain ⟨a, n1, n2⟩ := form_at T hf
        walk_at "jrd"
        refine ite_F rfl ?_
        walk_at "jrd"
        refine w_fget ?_
        walk_at "jrd"
        refine ⟨o.1, _, .ref a, rfl, n1, rfl, ?_⟩
        walk_at "jrd"
        exact key _ _ ⟨fun _ _ h => h, a, _, rfl, n2 _⟩
/-- what the rows of a text told -/
def OrdsAt (m : Addr) (H : Hp) (ws : List V) (os : List (Str × List V)) : Prop := ws.length = os.length ∧ ∀ (i : Nat) (v : V) (o : Str × List V), ws[i]? = some v → os[i]? = some o → ∃ t l, v = .ref t ∧ H t = some (.tup [.str o.1, .ref l]) ∧ H l = some (.lst o.2) ∧ l ≠ m
theorem OrdsAt.same {m : Addr} {H H' : Hp} {ws : List V} {os : List (Str × List V)} (h : OrdsAt m H ws os) (e : Same H H') : OrdsAt m H' ws os :=
  ⟨h.1, fun i v o hv ho => by obtain ⟨t, l, h1, h2, h3, h4⟩ := h.2 i v o hv ho; exact ⟨t, l, h1, e _ _ h2, e _ _ h3, h4⟩⟩
theorem OrdsAt.fr {m : Addr} {H H' : Hp} {ws : List V} {os : List (Str × List V)} {xs : List V} (h : OrdsAt m H ws os) (f : Fr1 m H H') (hm : H m = some (.lst xs)) : OrdsAt m H' ws os :=
  ⟨h.1, fun i v o hv ho => by
    obtain ⟨t, l, h1, h2, h3, h4⟩ := h.2 i v o hv ho
    exact ⟨t, l, h1, f _ _ h2 (ne_of h2 hm (by intro z; cases z)), f _ _ h3 h4, h4⟩⟩
theorem OrdsAt.snoc {m : Addr} {H : Hp} {ws : List V} {os : List (Str × List V)} {o : Str × List V} {t l : Addr} (h : OrdsAt m H ws os) (h1 : H t = some (.tup [.str o.1, .ref l])) (h2 : H l = some (.lst o.2)) (h3 : l ≠ m) : OrdsAt m H (ws ++ [.ref t]) (os ++ [o]) := by
  refine ⟨by simp [h.1], fun i v q hv hq => ?_⟩
  rcases Nat.lt_or_ge i ws.length with hi | hi
  · rw [List.getElem?_append_left hi] at hv
    rw [List.getElem?_append_left (h.1 ▸ hi)] at hq
    exact h.2 i v q hv hq
  · have hi2 : i = ws.length := by
      have := (List.getElem?_eq_some_iff.mp hv).1
      simp at this; omega
    subst hi2
    have e1 : v = .ref t := by simpa using hv.symm
    rw [h.1] at hq
    have e2 : q = o := by simpa using hq.symm
    subst e1 e2
    exact ⟨t, l, rfl, h1, h2, h3⟩
def sp_orders : Sp := fun vs H Q _ => ∃ (text : Str) (rows : List Str) (os : List (Str × List V)), vs = [.str text] ∧ Txt.split text "\n" = rows ∧ text.length ≤ 1000000 ∧ rows.length = os.length ∧ 0 < rows.length ∧ rows.length ≤ 1000 ∧
  (∀ (i : Nat) (row : Str) (o : Str × List V), rows[i]? = some row → os[i]? = some o → RowOk (decide (i = 0)) row o) ∧
  ∀ p ws H', H p = none → Same H H' → H' p = some (.lst ws) → OrdsAt p H' ws os → Q (.ref p) H'
abbrev N_orders_in : List Str := ["text", "rows", "found", "place", "row", "order"]
theorem sc_orders_in : FnScope N_orders_in ["text"] (defScope s_orders_in) := ⟨rfl, rfl, rfl, by decide +kernel, rfl, by decide +kernel, by decide +kernel⟩
theorem ok_orders_in (T : Txt w K mg) : OkF P w K mg base 5 (gA K "orders_in") ["text"] sp_orders := by
  obtain ⟨fd_order_by, c_order_by⟩ := ok_order_by (P := P) (base := base) T
  refine okF (Td_orders_in T) sc_orders_in (fun _ _ _ _ _ _ us hl => match us, hl with | [_], _ => rfl) (fun vs H Q E h => ?_) (fun cdv A outer s H vs Q E hr h => have hu := hu_of hr; ⟨_, (pss_cons (ps_set (i := 1) sc_orders_in.nd rfl (by first | exact Or.inl rfl | exact Or.inr rfl) (pe_m1 PySem.F.slot_str_split PySem.F.type_str_split mt_splitJ (pv 0) pe_str))
      (pss_cons (ps_set (i := 2) sc_orders_in.nd rfl (by first | exact Or.inl rfl | exact Or.inr rfl) (pe_lst pa_nil))
      (pss_cons (ps_for PassesOwn.never rfl (pi_enum (by rfl) (Tf_enumerate T) (pa_cons (pv 1) pa_nil)) (pg_tupK K (n := 2) rfl (pgs_cons (pg_name (i := 3) sc_orders_in.nd rfl (by first | exact Or.inl rfl | exact Or.inr rfl)) (pgs_cons (pg_name (i := 4) sc_orders_in.nd rfl (by first | exact Or.inl rfl | exact Or.inr rfl)) pgs_nil)))
      (pss_one (ps_if (pt_cmpR op_ne (pv 4) pe_str (nomark _)) (pss_cons (ps_set (i := 5) sc_orders_in.nd rfl (by first | exact Or.inl rfl | exact Or.inr rfl) (pe_call c_order_by.1 (hr.mono (by decide)) rfl (Tg_order_by T) c_order_by.2.2 c_order_by.2.1 .nil pass0 (pa_cons (pv 4) (pa_cons (pe_cmpR op_eq (pe_callB (call_lenJ K) (by rfl) (Tf_len T) (by decide +kernel) (pa_cons (pv 2) pa_nil)) pe_int (nomark _)) pa_nil))))
      (pss_cons (ps_if (pt_cmp (pc_isN (pv 5))) (pss_one ps_never) pss_nil)
      (pss_one (ps_expr (pe_bm PySem.F.plainAttrs_list PySem.F.slot_list_append PySem.F.type_list_append mt_append (pv 2) (pa_cons (pv 5) pa_nil)))))) pss_nil)))
      (pss_cons (ps_if (pt_cmpR op_eq (pe_callB (call_lenJ K) (by rfl) (Tf_len T) (by decide +kernel) (pa_cons (pv 2) pa_nil)) pe_int (nomark _)) (pss_one ps_never) pss_nil)
      (pss_one (ps_ret (pv 2))))))), ?_⟩)
  · obtain ⟨text, rows, os, rfl, _⟩ := h
    rfl
  · obtain ⟨text, rows, os, rfl, hs, ht, hlo, h0, hz, hok, q⟩ := h
    walk_at "jrd"
    refine j_split (by decide +kernel) (sz _ (by omega)) fun p H1 hn he hp => ?_
    rw [hs] at hp
    walk_at "jrd"
    have hpH : H p_1 = none := he.free hn_1
    refine loop_walk walk_en (fun i σ H2 => Same H1 H2 ∧ (∃ v3 v4 v5, σ = [some (.str text), some (.ref p), some (.ref p_1), v3, v4, v5]) ∧ ∃ ws, H2 p_1 = some (.lst ws) ∧ OrdsAt p_1 H2 ws (os.take i) ∧ ws.length = i)
      ⟨he_1, ⟨_, _, _, rfl⟩, [], hp_1, ⟨rfl, fun i v o h _ => by simp at h⟩, rfl⟩ (fun i σ H2 _ p => SqL.of (p.1 _ _ hp)) ?_ ?_
    · clear he_1 hp_1
      rintro i y σ H2 H2' hi ⟨e2, ⟨v3, v4, v5, rfl⟩, ws, hws, hos, hwl⟩ ⟨t, v, rfl, ht', eT, hT, hv⟩
      rw [List.getElem?_map, Option.map_eq_some_iff] at hv
      obtain ⟨row, hrow, rfl⟩ := hv
      have hil : i < rows.length := (List.getElem?_eq_some_iff.mp hrow).1
      have ho : os[i]? = some os[i] := List.getElem?_eq_getElem (by omega)
      have ok := hok i row os[i] hrow ho
      generalize os[i] = o at *
      have hws' := eT _ _ hws
      have hos' := hos.same eT
      have e2' := e2.trans eT
      clear eT hws hos e2
      walk_at "jrd"
      refine ite_nof (fun hne => ?_) (fun z => absurd z ok.ne)
      walk_at "jrd"
      refine ⟨row, _, o, rfl, ?_, fun p5 l5 H5 hn5 hl5 e5 h5 hl => ?_⟩
      · have : decide (((ws.length : Nat) : Int) = 0) = decide (i = 0) := by
          rw [hwl, decide_eq_decide]; omega
        rw [this]; exact ok
      have nl : l5 ≠ p_1 := (ne_of_none hws' hl5).symm
      have hws5 := e5 _ _ hws'
      have hos5 := hos'.same e5
      clear hws' hos' hT
      walk_at "jrd"
      refine ite_F (by simp) ?_
      walk_at "jrd"
      refine ⟨Same.mut (e2'.trans e5) hn_1 hf, ⟨_, _, _, rfl⟩, _, hp_1, ?_, by simp [hwl]⟩
      rw [take_more ho]
      exact (hos5.fr hf hws5).snoc (hf _ _ h5 (ne_of h5 hws5 (by intro z; cases z))) (hf _ _ hl nl) nl
    · rintro σ H2 ⟨e2, ⟨v3, v4, v5, rfl⟩, ws, hws, hos, hwl⟩
      rw [List.take_of_length_le (by rw [List.length_map]; omega)] at hos
      have hwl : ws.length = rows.length := by rw [hwl, List.length_map]
      walk_at "jrd"
      refine ite_F (decide_eq_false (by omega)) ?_
      walk_at "jrd"
      exact q _ _ _ hpH (he.trans e2) hws hos
end
section
variable {P : Program} {w : World} {K : PySem.W.Frag} {mg : Str → Option Value} {base : Heap}
/-! ### a desk -/
def deskKeys : List Str := ["mesh", "places", "weights"]
structure DeskAt (K : PySem.W.Frag) (G H : Hp) (d x pl pd wd : Addr) (turn : Int) (Ss : List SD) : Prop where
  mesh : MeshAt K G H x pl turn Ss
  ins : ∃ dx fs, G d = some (.ins (gA K "Desk") dx fs) ∧ NoM deskKeys fs ∧ lk fs "mesh" (.ref x) ∧ lk fs "places" (.ref pd) ∧ lk fs "weights" (.ref wd)
  hpd : ∃ kvs, H pd = some (.dK kvs) ∧ kvs.length ≤ Ss.length
  hwd : ∃ kvs, H wd = some (.dK kvs) ∧ kvs.length ≤ Ss.length
  gpd : G pd = none
  gwd : G wd = none
  npw : pd ≠ wd
theorem putK_len (kvs : List (Key × V)) (k : Key) (v : V) : (putK kvs k v).length ≤ kvs.length + 1 := by
  unfold putK
  split
  · rw [List.length_map]; omega
  · simp
section
variable {K : PySem.W.Frag} {G H : Hp} {d x pl pd wd : Addr} {turn : Int} {Ss : List SD}
theorem DeskAt.same {H' : Hp} (A : DeskAt K G H d x pl pd wd turn Ss) (e : Same H H') : DeskAt K G H' d x pl pd wd turn Ss :=
  { A with mesh := A.mesh.same e, hpd := by obtain ⟨k, h1, h2⟩ := A.hpd; exact ⟨k, e _ _ h1, h2⟩, hwd := by obtain ⟨k, h1, h2⟩ := A.hwd; exact ⟨k, e _ _ h1, h2⟩ }
theorem DeskAt.none {p : Addr} (A : DeskAt K G H d x pl pd wd turn Ss) (h : H p = Option.none) : p ≠ pl ∧ p ≠ pd ∧ p ≠ wd := by
  obtain ⟨as, h1, _, _⟩ := A.mesh.past
  obtain ⟨k, h2, _⟩ := A.hpd
  obtain ⟨k', h3, _⟩ := A.hwd
  exact ⟨(ne_of_none h1 h).symm, (ne_of_none h2 h).symm, (ne_of_none h3 h).symm⟩
theorem DeskAt.meshc {G' H' : Hp} {Ss' : List SD} (A : DeskAt K G H d x pl pd wd turn Ss) (f : Fr1 pl H H') (g : GrowM G H G') (M : MeshAt K G' H' x pl turn Ss') (l : Ss.length ≤ Ss'.length) : DeskAt K G' H' d x pl pd wd turn Ss' := by
  obtain ⟨as, h1, _, _⟩ := A.mesh.past
  obtain ⟨k, h2, l2⟩ := A.hpd
  obtain ⟨k', h3, l3⟩ := A.hwd
  obtain ⟨dx, fs, i1, i2⟩ := A.ins
  exact ⟨M, ⟨dx, fs, g.1 _ _ i1, i2⟩, ⟨k, f _ _ h2 (ne_of h2 h1 (by intro z; cases z)), by omega⟩, ⟨k', f _ _ h3 (ne_of h3 h1 (by intro z; cases z)), by omega⟩, g.2 _ (by rw [h2]; simp) A.gpd, g.2 _ (by rw [h3]; simp) A.gwd, A.npw⟩
theorem DeskAt.putP {H' : Hp} {kvs : List (Key × V)} (A : DeskAt K G H d x pl pd wd turn Ss) (f : Fr1 pd H H') (h : H' pd = some (.dK kvs)) (l : kvs.length ≤ Ss.length) : DeskAt K G H' d x pl pd wd turn Ss := by
  obtain ⟨as, h1, _, _⟩ := A.mesh.past
  obtain ⟨k, h2, l2⟩ := A.hpd
  obtain ⟨k', h3, l3⟩ := A.hwd
  exact { A with mesh := A.mesh.fr f A.gpd (ne_of h1 h2 (by intro z; cases z)), hpd := ⟨_, h, l⟩, hwd := ⟨k', f _ _ h3 A.npw.symm, l3⟩ }
theorem DeskAt.putW {H' : Hp} {kvs : List (Key × V)} (A : DeskAt K G H d x pl pd wd turn Ss) (f : Fr1 wd H H') (h : H' wd = some (.dK kvs)) (l : kvs.length ≤ Ss.length) : DeskAt K G H' d x pl pd wd turn Ss := by
  obtain ⟨as, h1, _, _⟩ := A.mesh.past
  obtain ⟨k, h2, l2⟩ := A.hpd
  obtain ⟨k', h3, l3⟩ := A.hwd
  exact { A with mesh := A.mesh.fr f A.gwd (ne_of h1 h3 (by intro z; cases z)), hwd := ⟨_, h, l⟩, hpd := ⟨k, f _ _ h2 A.npw, l2⟩ }
end
def sp_desk_init (K : PySem.W.Frag) : Sp := fun vs H Q _ => ∃ (d dx : Addr) (turn : Int) (G : Hp), vs = [.ref d, .int turn] ∧ H d = some (.ins (gA K "Desk") dx []) ∧ Same G H ∧ G d = none ∧
  ∀ (H' G' : Hp) (x pl pd wd : Addr), Fr1 d H H' → Same G G' → (∀ b, b ≠ d → H b ≠ none → G b = none → G' b = none) → DeskAt K G' H' d x pl pd wd turn [⟨[], [], 0⟩] → Q .non H'
abbrev N_Desk_init : List Str := ["self", "turn"]
theorem sc_Desk_init : FnScope N_Desk_init ["self", "turn"] (defScope s_Desk_init) := ⟨rfl, rfl, rfl, by decide +kernel, rfl, by decide +kernel, by decide +kernel⟩
theorem ok_Desk_init (T : Txt w K mg) : OkF P w K mg base 5 (mA K "Desk" "__init__") ["self", "turn"] (sp_desk_init K) := by
  obtain ⟨fd_Mesh_init, c_Mesh_init⟩ := ok_Mesh_init (P := P) (base := base) T
  have cl_Desk := Tc_Desk T
  have na_Desk_mesh := Tn_Desk_mesh T
  have na_Desk_places := Tn_Desk_places T
  have na_Desk_weights := Tn_Desk_weights T
  refine okF (Td_Desk_init T) sc_Desk_init (fun _ _ _ _ _ _ us hl => match us, hl with | [_, _], _ => rfl) (fun vs H Q E h => ?_) (fun cdv A outer s H vs Q E hr h => have hu := hu_of hr; ⟨_, (pss_cons (ps_fld (pv 0) (pe_make (Tk_Mesh T) c_Mesh_init.1 (hr.mono (by decide)) rfl (Tg_Mesh T) c_Mesh_init.2.1 .nil pass0 (pa_cons (pe_lst pa_nil) (pa_cons (pv 1) pa_nil))) rfl)
      (pss_cons (ps_fld (pv 0) pe_dnewK rfl)
      (pss_one (ps_fld (pv 0) pe_dnewK rfl)))), ?_⟩)
  · obtain ⟨d, dx, turn, G, rfl, _⟩ := h
    rfl
  · obtain ⟨d, dx, turn, G, rfl, hd, eG, hG, q⟩ := h
    walk_at "jrd"
    refine r_make fun x dx2 H5 hn5 e5 hx => ?_
    have hd5 := e5 _ _ (he _ _ hd)
    have nxd : x ≠ d := (ne_of_none (he _ _ hd) hn5).symm
    refine ⟨x, p, dx2, [], turn, G, rfl, hx, (eG.trans he).trans e5, (eG.trans he).free hn5, e5 _ _ hp, .nil, by simp, by simp, fun H6 G6 pl ys f6 s6 g6 hys hpl6 _ M6 => ⟨rfl, ?_⟩⟩
    have hys : ys = [] := List.Perm.eq_nil hys
    subst hys
    have hd6 : H6 d = _ := f6 _ _ hd5 nxd.symm
    have G6d : G6 d = none := g6 d nxd.symm (by rw [hd5]; simp) hG
    clear hd hd5
    walk_at "jrd"
    obtain ⟨as, hpl, _, _⟩ := M6.past
    have npl : pl ≠ d := ne_of hpl hd6 (by intro z; cases z)
    have M5 := (((((M6.fr hf G6d npl).same he_1).fr hf_1 G6d npl).same he_2).fr hf_2 G6d npl)
    have np1 : p_1 ≠ d := (ne_of_none hp_1 hn_1).symm
    have np2 : p_2 ≠ d := (ne_of_none hp_3 hn_2).symm
    have F : Fr1 d H H'_5 := fun b o h n => hf_2 _ _ (he_2 _ _ (hf_1 _ _ (he_1 _ _ (hf _ _ (f6 _ _ (e5 _ _ (he _ _ h)) (ne_of_none (he _ _ h) hn5)) n)) n)) n
    have sG : Same G6 (fun b => if b = d then H'_5 d else G6 b) := fun b o h => by
      have n : b ≠ d := ne_of_none h G6d
      show (if b = d then _ else _) = _
      rw [if_neg n]; exact h
    have sH : Same (fun b => if b = d then H'_5 d else G6 b) H'_5 := fun b o h => by
      by_cases n : b = d
      · subst n; simpa using h
      · have h : (if b = d then H'_5 d else G6 b) = some o := h
        rw [if_neg n] at h
        exact M5.sub _ _ h
    have hpw : p_1 ≠ p_2 := ne_of_none (hf_1 _ _ hp_2 np1) hn_2
    have g1 : G6 p_1 = none := (M6.fr hf G6d npl).sub.free hn_1
    have g2 : G6 p_2 = none := ((M6.fr hf G6d npl).same he_1).fr hf_1 G6d npl |>.sub.free hn_2
    refine q H'_5 (fun b => if b = d then H'_5 d else G6 b) x pl p_1 p_2 F (s6.trans sG) (fun b n h g => ?_) ⟨M5.regh sG sH (by show (if pl = d then _ else _) = _; rw [if_neg npl]; exact M6.gpl), ⟨dx, _, (if_pos rfl).trans hp_5, ?_, ?_, ?_, ?_⟩, ⟨[], hf_2 _ _ (he_2 _ _ (hf_1 _ _ hp_2 np1)) np1, Nat.zero_le _⟩, ⟨[], hf_2 _ _ hp_4 np2, Nat.zero_le _⟩, by show (if p_1 = d then _ else _) = _; rw [if_neg np1]; exact g1, by show (if p_2 = d then _ else _) = _; rw [if_neg np2]; exact g2, hpw⟩
    · show (if b = d then _ else _) = _
      rw [if_neg n]
      cases hb : H b with
      | none => exact absurd hb h
      | some o => exact g6 b (ne_of_none (he _ _ hb) hn5) (by rw [e5 _ _ (he _ _ hb)]; simp) g
    · walk_at "jnm"
    · walk_at "jlk"
    · walk_at "jlk"
    · walk_at "jlk"
def sp_desk_named (K : PySem.W.Frag) : Sp := fun vs H Q _ => ∃ (d x pl pd wd : Addr) (n : Str) (turn : Int) (Ss : List SD) (D : SD) (G : Hp), vs = [.ref d, .str "name", .str n] ∧ DeskAt K G H d x pl pd wd turn (Ss ++ [D]) ∧ IsNm n ∧ ¬ n ∈ D.names ∧ D.names.length < 63 ∧ Ss.length < 399 ∧
  ∀ (z : Str) (H' G' : Hp) (ys : List Str), FrM [pl, pd, wd] H H' → GrowM G H G' → ys.Perm (D.names ++ [n]) → DeskAt K G' H' d x pl pd wd turn (Ss ++ [D] ++ [⟨ys, D.rows, D.coming⟩]) → Q (.str z) H'
abbrev N_Desk_named : List Str := ["self", "word", "name"]
theorem sc_Desk_named : FnScope N_Desk_named ["self", "word", "name"] (defScope s_Desk_named) := ⟨rfl, rfl, rfl, by decide +kernel, rfl, by decide +kernel, by decide +kernel⟩
theorem ok_Desk_named (T : Txt w K mg) : OkF P w K mg base 5 (mA K "Desk" "named") ["self", "word", "name"] (sp_desk_named K) := by
  obtain ⟨fd_Mesh_put_name, c_Mesh_put_name⟩ := ok_Mesh_put_name (P := P) (base := base) T
  obtain ⟨fd_Mesh_moment, c_Mesh_moment⟩ := ok_Mesh_moment (P := P) (base := base) T
  have cl_Desk := Tc_Desk T
  have cl_Mesh := Tc_Mesh T
  have na_Desk_mesh := Tn_Desk_mesh T
  have na_Desk_places := Tn_Desk_places T
  have na_Desk_weights := Tn_Desk_weights T
  refine okF (Td_Desk_named T) sc_Desk_named (fun _ _ _ _ _ _ us hl => match us, hl with | [_, _, _], _ => rfl) (fun vs H Q E h => ?_) (fun cdv A outer s H vs Q E hr h => have hu := hu_of hr; ⟨_, (pss_cons (ps_if (pt_cmpR op_eq (pv 1) pe_str (nomark _)) (pss_cons (ps_expr (pe_meth (pe_fldK K (pv 0) rfl) (Tc_Mesh T) (Tm_Mesh_put_name T) c_Mesh_put_name.1 (hr.mono (by decide)) c_Mesh_put_name.2.1 .nil pass0 (pa_cons (pv 2) pa_nil)))
      (pss_cons (ps_dput hu (pe_fldK K (pv 0) rfl) (pv 2) (pe_meth0 (pe_fldK K (pv 0) rfl) (Tc_Mesh T) (Tm_Mesh_moment T) c_Mesh_moment.1 (hr.mono (by decide)) c_Mesh_moment.2.1 .nil pass0) rfl)
      (pss_cons (ps_dput hu (pe_fldK K (pv 0) rfl) (pv 2) pe_int rfl)
      (pss_one (ps_ret pe_str))))) pss_nil)
      (pss_one ps_never)), ?_⟩)
  · obtain ⟨d, x, pl, pd, wd, n, turn, Ss, D, G, rfl, _⟩ := h
    rfl
  · obtain ⟨d, x, pl, pd, wd, n, turn, Ss, D, G, rfl, A, hn, hnot, hl, hS, q⟩ := h
    obtain ⟨dx, fs, i1, i2, i3, i4, i5⟩ := A.ins
    obtain ⟨dx2, fs2, m1, m2, _, _⟩ := A.mesh.ins
    have j1 := A.mesh.sub _ _ i1
    have k1 := A.mesh.sub _ _ m1
    walk_at "jrd"
    refine ite_T (by decide +kernel) ?_
    walk_at "jrd"
    refine ⟨x, pl, n, turn, Ss, D, G, rfl, A.mesh, hn, hnot, hl, hS, fun H1 G1 ys f1 g1 hys M1 => ?_⟩
    have A1 := A.meshc f1 g1 M1 (by simp)
    have j2 := A1.mesh.sub _ _ (g1.1 _ _ i1)
    have k2 := A1.mesh.sub _ _ (g1.1 _ _ m1)
    obtain ⟨as, hpl, _, _⟩ := A.mesh.past
    obtain ⟨kv, hpd0, lpd⟩ := A.hpd
    obtain ⟨kv2, hwd0, lwd⟩ := A.hwd
    have hpd : H1 pd = _ := f1 _ _ hpd0 (ne_of hpd0 hpl (by intro z; cases z))
    have hwd : H1 wd = _ := f1 _ _ hwd0 (ne_of hwd0 hpl (by intro z; cases z))
    have len := M1.len
    clear j1 k1 hpd0 hwd0
    walk_at "jrd"
    refine ⟨x, pl, turn, _, G1, rfl, M1, ?_⟩
    walk_at "jrd"
    refine r_dputS hpd (szlt _ (by simp at lpd len; omega)) fun H2 f2 h2 => ?_
    have A2 := A1.putP f2 h2 (Nat.le_trans (putK_len _ _ _) (by simp at lpd ⊢; omega))
    have j3 := A2.mesh.sub _ _ (g1.1 _ _ i1)
    have hwd2 : H2 wd = _ := f2 _ _ hwd A.npw.symm
    clear j2 k2 hpd hwd
    walk_at "jrd"
    refine r_dputS hwd2 (szlt _ (by simp at lwd len; omega)) fun H3 f3 h3 => ?_
    have A3 := A2.putW f3 h3 (Nat.le_trans (putK_len _ _ _) (by simp at lwd ⊢; omega))
    walk_at "jrd"
    refine q _ H3 G1 ys (fun b o h n => ?_) g1 hys A3
    simp only [List.mem_cons, List.not_mem_nil, or_false, not_or] at n
    exact f3 _ _ (f2 _ _ (f1 _ _ h n.1) n.2.1) n.2.2
def sp_desk_joined (K : PySem.W.Frag) : Sp := fun vs H Q _ => ∃ (d x pl pd wd : Addr) (o p : Str) (st turn : Int) (Ss : List SD) (D : SD) (G : Hp) (sp : Str → Int), vs = [.ref d, .str o, .str p, .int st] ∧ DeskAt K G H d x pl pd wd turn (Ss ++ [D]) ∧ o ∈ D.names ∧ p ∈ D.names ∧ Right sp turn D ∧ 0 ≤ turn ∧ (st - (sp p - sp o)) % turn = 0 ∧ D.coming < 400 ∧ Ss.length < 399 ∧
  ∀ (z : Str) (H' G' : Hp), FrM [pl, pd, wd] H H' → GrowM G H G' → DeskAt K G' H' d x pl pd wd turn (Ss ++ [D] ++ [D.more (o, p, st)]) → Q (.str z) H'
abbrev N_Desk_joined : List Str := ["self", "one", "other", "step", "told"]
theorem sc_Desk_joined : FnScope N_Desk_joined ["self", "one", "other", "step"] (defScope s_Desk_joined) := ⟨rfl, rfl, rfl, by decide +kernel, rfl, by decide +kernel, by decide +kernel⟩
theorem ok_Desk_joined (T : Txt w K mg) : OkF P w K mg base 5 (mA K "Desk" "joined") ["self", "one", "other", "step"] (sp_desk_joined K) := by
  obtain ⟨fd_Mesh_join, c_Mesh_join⟩ := ok_Mesh_join (P := P) (base := base) T
  have cl_Desk := Tc_Desk T
  have cl_Mesh := Tc_Mesh T
  have na_Desk_mesh := Tn_Desk_mesh T
  refine okF (Td_Desk_joined T) sc_Desk_joined (fun _ _ _ _ _ _ us hl => match us, hl with | [_, _, _, _], _ => rfl) (fun vs H Q E h => ?_) (fun cdv A outer s H vs Q E hr h => have hu := hu_of hr; ⟨_, (pss_cons (ps_set (i := 4) sc_Desk_joined.nd rfl (by first | exact Or.inl rfl | exact Or.inr rfl) (pe_meth (pe_fldK K (pv 0) rfl) (Tc_Mesh T) (Tm_Mesh_join T) c_Mesh_join.1 (hr.mono (by decide)) c_Mesh_join.2.1 .nil pass0 (pa_cons (pv 1) (pa_cons (pv 2) (pa_cons (pv 3) pa_nil)))))
      (pss_cons (ps_if (pt_cmpR op_eq (pe_ix (ix_tupK K) (pv 4) pe_int (fun _ _ => rfl)) pe_str (nomark _)) (pss_one ps_never) pss_nil)
      (pss_one (ps_ret (pe_op op_addSJ (pe_op op_addSJ (pe_ix (ix_tupK K) (pv 4) pe_int (fun _ _ => rfl)) pe_str) (pe_callTy call_strJ (by rfl) (Tf_str T) (by decide +kernel) (pa_cons (pe_ix (ix_tupK K) (pv 4) pe_int (fun _ _ => rfl)) pa_nil))))))), ?_⟩)
  · obtain ⟨d, x, pl, pd, wd, o, p, st, turn, Ss, D, G, sp, rfl, _⟩ := h
    rfl
  · obtain ⟨d, x, pl, pd, wd, o, p', st, turn, Ss, D, G, sp, rfl, A, ho, hp', hR, t0, hst, hc, hS, q⟩ := h
    obtain ⟨dx, fs, i1, i2, i3, i4, i5⟩ := A.ins
    obtain ⟨dx2, fs2, m1, m2, _, _⟩ := A.mesh.ins
    have j1 := A.mesh.sub _ _ i1
    have k1 := A.mesh.sub _ _ m1
    walk_at "jrd"
    refine ⟨x, pl, o, p', st, turn, Ss, D, G, sp, rfl, A.mesh, ho, hp', hR, t0, hst, hc, hS, fun q1 H1 G1 f1 g1 M1 h1 => ?_⟩
    have A1 := A.meshc f1 g1 M1 (by simp)
    have hw : ∀ (b : Prop) [Decidable b], decide ((if b then ("known" : Str) else ("joined" : Str)) = ("clash" : Str)) = false := fun b _ => by split <;> decide +kernel
    have lw : ∀ (b : Prop) [Decidable b], (if b then ("known" : Str) else ("joined" : Str)).length ≤ 6 := fun b _ => by split <;> decide +kernel
    have hcl := num_len D.coming hc
    walk_at "jrd"
    refine ite_F (hw _) ?_
    walk_at "jrd"
    refine j_addS (sz _ (by have := lw (D.lab o = D.lab p'); have e : (" " : Str).length = 1 := by decide +kernel
                            omega)) ?_
    walk_at "jrd"
    refine ⟨_, rfl, log_small hc, ?_⟩
    walk_at "jrd"
    refine j_addS (sz _ ?_) ?_
    · rw [str_len_app]
      have := lw (D.lab o = D.lab p')
      have e : (" " : Str).length = 1 := by decide +kernel
      have hcl : (Str.ofString (toString ((D.coming : Nat) : Int))).length ≤ 3 := hcl
      omega
    · exact q _ H1 G1 (f1.frM (by simp)) g1 A1
def sp_desk_two (K : PySem.W.Frag) : Sp := fun vs H Q _ => ∃ (d x pl pd wd : Addr) (n m : Str) (turn : Int) (Ss : List SD) (D : SD) (G : Hp), vs = [.ref d, .str "way", .str n, .str m] ∧ DeskAt K G H d x pl pd wd turn (Ss ++ [D]) ∧ n ∈ D.names ∧ m ∈ D.names ∧ D.lab n = D.lab m ∧ n ≠ m ∧
  ∀ (H' : Hp) (L : List (Str × Wy)) (w : Wy), Same H H' → Grow D.edges n L → Closed D.edges L → (m, w) ∈ L → Q (.str (shWay w)) H'
theorem grow_pos {E : Str → List Ed} {x : Str} {L : List (Str × Wy)} (g : Grow E x L) : ∀ q ∈ L, q.1 ≠ x → 0 < q.2.length := by
  induction g with
  | start => intro q hq hn; have : q = (x, []) := by simpa using hq
             subst this; exact absurd rfl hn
  | @more L z y wz n s _ _ _ _ ih =>
    intro q hq hn
    rcases List.mem_append.mp hq with h | h
    · exact ih q h hn
    · have : q = (y, wz ++ [(n, s)]) := by simpa using h
      subst this; simp
abbrev N_Desk_of_two : List Str := ["self", "word", "one", "other", "steps", "first", "last"]
theorem sc_Desk_of_two : FnScope N_Desk_of_two ["self", "word", "one", "other"] (defScope s_Desk_of_two) := ⟨rfl, rfl, rfl, by decide +kernel, rfl, by decide +kernel, by decide +kernel⟩
theorem ok_Desk_of_two (T : Txt w K mg) : OkF P w K mg base 4 (mA K "Desk" "of_two") ["self", "word", "one", "other"] (sp_desk_two K) := by
  obtain ⟨fd_shown_or_no, c_shown_or_no⟩ := ok_shown_or_no (P := P) (base := base) T
  obtain ⟨fd_Mesh_way, c_Mesh_way⟩ := ok_Mesh_way (P := P) (base := base) T
  have cl_Desk := Tc_Desk T
  have cl_Mesh := Tc_Mesh T
  have na_Desk_mesh := Tn_Desk_mesh T
  refine okF (Td_Desk_of_two T) sc_Desk_of_two (fun _ _ _ _ _ _ us hl => match us, hl with | [_, _, _, _], _ => rfl) (fun vs H Q E h => ?_) (fun cdv A outer s H vs Q E hr h => have hu := hu_of hr; ⟨_, (pss_cons (ps_if (pt_cmpR op_eq (pv 1) pe_str (nomark _)) (pss_one ps_never) pss_nil)
      (pss_cons (ps_if (pt_cmpR op_eq (pv 1) pe_str (nomark _)) (pss_cons ps_never
      (pss_one ps_never)) pss_nil)
      (pss_cons (ps_if (pt_cmpR op_eq (pv 1) pe_str (nomark _)) (pss_one (ps_ret (pe_call c_shown_or_no.1 (hr.mono (by decide)) rfl (Tg_shown_or_no T) c_shown_or_no.2.2 c_shown_or_no.2.1 .nil pass0 (pa_cons (pe_meth (pe_fldK K (pv 0) rfl) (Tc_Mesh T) (Tm_Mesh_way T) c_Mesh_way.1 (hr.mono (by decide)) c_Mesh_way.2.1 .nil pass0 (pa_cons (pv 2) (pa_cons (pv 3) pa_nil))) pa_nil)))) pss_nil)
      (pss_cons (ps_if (pt_cmpR op_eq (pv 1) pe_str (nomark _)) (pss_one ps_never) pss_nil)
      (pss_one ps_never))))), ?_⟩)
  · obtain ⟨d, x, pl, pd, wd, n, m, turn, Ss, D, G, rfl, _⟩ := h
    rfl
  · obtain ⟨d, x, pl, pd, wd, n, m, turn, Ss, D, G, rfl, A, hn, hm, hlab, hnm, q⟩ := h
    obtain ⟨dx, fs, i1, i2, i3, i4, i5⟩ := A.ins
    obtain ⟨dx2, fs2, m1, m2, _, _⟩ := A.mesh.ins
    have j1 := A.mesh.sub _ _ i1
    have k1 := A.mesh.sub _ _ m1
    have ok := A.mesh.lastOk
    walk_at "jrd"
    refine ite_F (by decide +kernel) ?_
    walk_at "jrd"
    refine ite_F (by decide +kernel) ?_
    walk_at "jrd"
    refine ite_T (by decide +kernel) ?_
    walk_at "jrd"
    refine ⟨x, pl, n, m, turn, Ss, D, G, rfl, A.mesh, hn, hm, fun H1 L e1 g c => ⟨fun z => absurd hlab z, fun w a hw ha _ => ?_⟩⟩
    walk_at "jrd"
    refine ⟨a, w, rfl, ha, grow_pos g _ hw hnm.symm, by have := grow_len ok hn g _ hw; simp at this; omega, fun p hp => ?_, fun H2 e2 => q H2 L w (e1.trans e2) g c hw⟩
    have h1 := ok.heldIn (grow_pairs ok g _ hw p hp).1
    obtain ⟨r, hr, e⟩ := List.mem_map.mp h1
    have := ok.lt r hr
    have := ok.co
    omega
def sp_desk_done (K : PySem.W.Frag) : Sp := fun vs H Q E =>
  (∃ (d pa : Addr) (n : Str), vs = [.ref d, .str "name", .ref pa] ∧ H pa = some (.lst [.str n]) ∧ sp_desk_named K [.ref d, .str "name", .str n] H Q E) ∨
  (∃ (d pa : Addr) (o p : Str) (st : Int), vs = [.ref d, .str "join", .ref pa] ∧ H pa = some (.lst [.str o, .str p, .int st]) ∧ sp_desk_joined K [.ref d, .str o, .str p, .int st] H Q E) ∨
  (∃ (d pa : Addr) (n m : Str), vs = [.ref d, .str "way", .ref pa] ∧ H pa = some (.lst [.str n, .str m]) ∧ sp_desk_two K [.ref d, .str "way", .str n, .str m] H Q E)
theorem sp_desk_done.len {K : PySem.W.Frag} {vs : List V} {H : Hp} {Q : VK} {E : XK} (h : sp_desk_done K vs H Q E) : vs.length = 3 := by
  rcases h with ⟨_, _, _, rfl, _⟩ | ⟨_, _, _, _, _, rfl, _⟩ | ⟨_, _, _, _, rfl, _⟩ <;> rfl
/-- the desk itself -/
theorem sp_desk_done.ins {K : PySem.W.Frag} {vs : List V} {H : Hp} {Q : VK} {E : XK} (h : sp_desk_done K vs H Q E) : ∃ d w p dx fs, vs = [.ref d, .str w, .ref p] ∧ H d = some (.ins (gA K "Desk") dx fs) ∧ NoM deskKeys fs := by
  rcases h with ⟨d, pa, n, rfl, _, d', x, pl, pd, wd, n', turn, Ss, D, G, e, A, _⟩ | ⟨d, pa, o, p, st, rfl, _, d', x, pl, pd, wd, o', p', st', turn, Ss, D, G, sp, e, A, _⟩ | ⟨d, pa, n, m, rfl, _, d', x, pl, pd, wd, n', m', turn, Ss, D, G, e, A, _⟩
  all_goals
    obtain ⟨dx, fs, i1, i2, _⟩ := A.ins
    injection e with e1 e2
    injection e1 with e1
    subst e1
    exact ⟨_, _, _, dx, fs, rfl, A.mesh.sub _ _ i1, i2⟩
theorem inV_three (n a b c : Str) : inV (.str n) [.str a, .str b, .str c] = decide (a = n ∨ b = n ∨ c = n) := by
  have := inV_strs n [a, b, c]
  rw [show [V.str a, V.str b, V.str c] = [a, b, c].map V.str from rfl, this, decide_eq_decide]
  simp only [List.mem_cons, List.not_mem_nil, or_false]
  constructor
  · rintro (h | h | h) <;> simp [h]
  · rintro (h | h | h) <;> simp [h]
theorem FrM.pre {M : List Addr} {H H1 H2 : Hp} (e : Same H H1) (f : FrM M H1 H2) : FrM M H H2 := fun b o h n => f b o (e b o h) n
theorem GrowM.pre {G H H1 G' : Hp} (e : Same H H1) (g : GrowM G H1 G') : GrowM G H G' := ⟨g.1, fun b h z => g.2 b (fun q => h (by
  cases hb : H b with
  | none => rfl
  | some o => rw [e _ _ hb] at q; cases q)) z⟩
theorem sp_desk_named.same {K : PySem.W.Frag} {vs : List V} {H H' : Hp} {Q : VK} {E : XK} (h : sp_desk_named K vs H Q E) (e : Same H H') : sp_desk_named K vs H' Q E := by
  obtain ⟨d, x, pl, pd, wd, n, turn, Ss, D, G, rfl, A, hn, hnot, hl, hS, q⟩ := h
  exact ⟨d, x, pl, pd, wd, n, turn, Ss, D, G, rfl, A.same e, hn, hnot, hl, hS, fun z H2 G2 ys f g hy B => q z H2 G2 ys (f.pre e) (g.pre e) hy B⟩
theorem sp_desk_joined.same {K : PySem.W.Frag} {vs : List V} {H H' : Hp} {Q : VK} {E : XK} (h : sp_desk_joined K vs H Q E) (e : Same H H') : sp_desk_joined K vs H' Q E := by
  obtain ⟨d, x, pl, pd, wd, o, p', st, turn, Ss, D, G, sp, rfl, A, ho, hp', hR, t0, hst, hc, hS, q⟩ := h
  exact ⟨d, x, pl, pd, wd, o, p', st, turn, Ss, D, G, sp, rfl, A.same e, ho, hp', hR, t0, hst, hc, hS, fun z H2 G2 f g B => q z H2 G2 (f.pre e) (g.pre e) B⟩
theorem sp_desk_two.same {K : PySem.W.Frag} {vs : List V} {H H' : Hp} {Q : VK} {E : XK} (h : sp_desk_two K vs H Q E) (e : Same H H') : sp_desk_two K vs H' Q E := by
  obtain ⟨d, x, pl, pd, wd, n, m, turn, Ss, D, G, rfl, A, hn, hm, hlab, hnm, q⟩ := h
  exact ⟨d, x, pl, pd, wd, n, m, turn, Ss, D, G, rfl, A.same e, hn, hm, hlab, hnm, fun H2 L w e2 g c hw => q H2 L w (e.trans e2) g c hw⟩
theorem sp_desk_done.mono {K : PySem.W.Frag} {vs : List V} {H : Hp} {Q Q' : VK} {E E' : XK} (h : sp_desk_done K vs H Q E) (m : ∀ v H', Q v H' → Q' v H') : sp_desk_done K vs H Q' E' := by
  rcases h with ⟨d, pa, n, rfl, hpa, d', x, pl, pd, wd, n', turn, Ss, D, G, e, A, h1, h2, h3, h4, q⟩ | ⟨d, pa, o, p, st, rfl, hpa, d', x, pl, pd, wd, o', p', st', turn, Ss, D, G, sp, e, A, h1, h2, h3, h4, h5, h6, h7, q⟩ | ⟨d, pa, n, m', rfl, hpa, d', x, pl, pd, wd, n', m'', turn, Ss, D, G, e, A, h1, h2, h3, h4, q⟩
  · exact .inl ⟨d, pa, n, rfl, hpa, d', x, pl, pd, wd, n', turn, Ss, D, G, e, A, h1, h2, h3, h4, fun z H' G' ys f g hy B => m _ _ (q z H' G' ys f g hy B)⟩
  · exact .inr (.inl ⟨d, pa, o, p, st, rfl, hpa, d', x, pl, pd, wd, o', p', st', turn, Ss, D, G, sp, e, A, h1, h2, h3, h4, h5, h6, h7, fun z H' G' f g B => m _ _ (q z H' G' f g B)⟩)
  · exact .inr (.inr ⟨d, pa, n, m', rfl, hpa, d', x, pl, pd, wd, n', m'', turn, Ss, D, G, e, A, h1, h2, h3, h4, fun H' L w e g c hw => m _ _ (q H' L w e g c hw)⟩)
abbrev N_Desk_done : List Str := ["self", "word", "parts"]
theorem sc_Desk_done : FnScope N_Desk_done ["self", "word", "parts"] (defScope s_Desk_done) := ⟨rfl, rfl, rfl, by decide +kernel, rfl, by decide +kernel, by decide +kernel⟩
theorem ok_Desk_done (T : Txt w K mg) : OkF P w K mg base 6 (mA K "Desk" "done") ["self", "word", "parts"] (sp_desk_done K) := by
  obtain ⟨fd_Desk_named, c_Desk_named⟩ := ok_Desk_named (P := P) (base := base) T
  obtain ⟨fd_Desk_joined, c_Desk_joined⟩ := ok_Desk_joined (P := P) (base := base) T
  obtain ⟨fd_Desk_of_two, c_Desk_of_two⟩ := ok_Desk_of_two (P := P) (base := base) T
  have cl_Desk := Tc_Desk T
  refine okF (Td_Desk_done T) sc_Desk_done (fun _ _ _ _ _ _ us hl => match us, hl with | [_, _, _], _ => rfl) (fun vs H Q E h => ?_) (fun cdv A outer s H vs Q E hr h => have hu := hu_of hr; ⟨_, (pss_cons (ps_if (pt_cmpR (op_inK K) (pv 1) (pe_tup (pa_cons pe_str (pa_cons pe_str pa_nil))) (by rfl)) (pss_one (ps_ret (pe_meth (pv 0) (Tc_Desk T) (Tm_Desk_named T) c_Desk_named.1 (hr.mono (by decide)) c_Desk_named.2.1 .nil pass0 (pa_cons (pv 1) (pa_cons (pe_ix (ix_listK K) (pv 2) pe_int (fun _ _ => rfl)) pa_nil))))) pss_nil)
      (pss_cons (ps_if (pt_cmpR op_eq (pv 1) pe_str (nomark _)) (pss_one (ps_ret (pe_meth (pv 0) (Tc_Desk T) (Tm_Desk_joined T) c_Desk_joined.1 (hr.mono (by decide)) c_Desk_joined.2.1 .nil pass0 (pa_cons (pe_ix (ix_listK K) (pv 2) pe_int (fun _ _ => rfl)) (pa_cons (pe_ix (ix_listK K) (pv 2) pe_int (fun _ _ => rfl)) (pa_cons (pe_ix (ix_listK K) (pv 2) pe_int (fun _ _ => rfl)) pa_nil)))))) pss_nil)
      (pss_cons (ps_if (pt_cmpR op_eq (pv 1) pe_str (nomark _)) (pss_one ps_never) pss_nil)
      (pss_cons (ps_if (pt_cmpR op_eq (pv 1) pe_str (nomark _)) (pss_one ps_never) pss_nil)
      (pss_cons (ps_if (pt_cmpR op_eq (pv 1) pe_str (nomark _)) (pss_one ps_never) pss_nil)
      (pss_cons (ps_if (pt_cmpR op_eq (pv 1) pe_str (nomark _)) (pss_one ps_never) pss_nil)
      (pss_cons (ps_if (pt_cmpR op_eq (pv 1) pe_str (nomark _)) (pss_one ps_never) pss_nil)
      (pss_cons (ps_if (pt_cmpR (op_inK K) (pv 1) (pe_tup (pa_cons pe_str (pa_cons pe_str (pa_cons pe_str pa_nil)))) (by rfl)) (pss_one ps_never) pss_nil)
      (pss_one (ps_ret (pe_meth (pv 0) (Tc_Desk T) (Tm_Desk_of_two T) c_Desk_of_two.1 (hr.mono (by decide)) c_Desk_of_two.2.1 .nil pass0 (pa_cons (pv 1) (pa_cons (pe_ix (ix_listK K) (pv 2) pe_int (fun _ _ => rfl)) (pa_cons (pe_ix (ix_listK K) (pv 2) pe_int (fun _ _ => rfl)) pa_nil)))))))))))))), ?_⟩)
  · exact h.len
  · obtain ⟨dd, ww, pp, dx, fs, evs, j1, j2⟩ := h.ins
    rcases h with ⟨d, pa, n, rfl, hpa, hs⟩ | ⟨d, pa, o, p', st, rfl, hpa, hs⟩ | ⟨d, pa, n, m, rfl, hpa, hs⟩
    · injection evs with e1 e2
      injection e1 with e1
      subst e1
      have a0 : atI [V.str n] 0 = some (.str n) := atI_zero
      walk_at "jrd"
      refine r_inT hp rfl rfl ?_
      rw [inV_two]
      walk_at "jrd"
      refine ite_T (by decide +kernel) ?_
      walk_at "jrd"
      exact hs.same he
    · injection evs with e1 e2
      injection e1 with e1
      subst e1
      have a0 : atI [V.str o, V.str p', V.int st] 0 = some (.str o) := atI_zero
      have a1 : atI [V.str o, V.str p', V.int st] 1 = some (.str p') := atI_one
      have a2 : atI [V.str o, V.str p', V.int st] 2 = some (.int st) := atI_nat (j := 2) rfl
      walk_at "jrd"
      refine r_inT hp rfl rfl ?_
      rw [inV_two]
      walk_at "jrd"
      refine ite_F (by decide +kernel) ?_
      walk_at "jrd"
      refine ite_T (by decide +kernel) ?_
      walk_at "jrd"
      exact hs.same he
    · injection evs with e1 e2
      injection e1 with e1
      subst e1
      have a0 : atI [V.str n, V.str m] 0 = some (.str n) := atI_zero
      have a1 : atI [V.str n, V.str m] 1 = some (.str m) := atI_one
      walk_at "jrd"
      refine r_inT hp rfl rfl ?_
      rw [inV_two]
      walk_at "jrd"
      refine ite_F (by decide +kernel) ?_
      walk_at "jrd"
      refine ite_F (by decide +kernel) ?_
      walk_at "jrd"
      refine ite_F (by decide +kernel) ?_
      walk_at "jrd"
      refine ite_F (by decide +kernel) ?_
      walk_at "jrd"
      refine ite_F (by decide +kernel) ?_
      walk_at "jrd"
      refine ite_F (by decide +kernel) ?_
      walk_at "jrd"
      refine ite_F (by decide +kernel) ?_
      walk_at "jrd"
      refine r_inT hp_1 rfl rfl ?_
      rw [inV_three]
      walk_at "jrd"
      refine ite_F (by decide +kernel) ?_
      walk_at "jrd"
      exact (hs.same he).same he_1
abbrev N_Desk_answer : List Str := ["self", "word", "parts", "found"]
theorem sc_Desk_answer : FnScope N_Desk_answer ["self", "word", "parts"] (defScope s_Desk_answer) := ⟨rfl, rfl, rfl, by decide +kernel, rfl, by decide +kernel, by decide +kernel⟩
theorem ok_Desk_answer (T : Txt w K mg) : OkF P w K mg base 7 (mA K "Desk" "answer") ["self", "word", "parts"] (sp_desk_done K) := by
  obtain ⟨fd_Desk_done, c_Desk_done⟩ := ok_Desk_done (P := P) (base := base) T
  have cl_Desk := Tc_Desk T
  refine okF (Td_Desk_answer T) sc_Desk_answer (fun _ _ _ _ _ _ us hl => match us, hl with | [_, _, _], _ => rfl) (fun vs H Q E h => ?_) (fun cdv A outer s H vs Q E hr h => have hu := hu_of hr; ⟨_, (pss_cons (ps_try_thru0 (pss_one (ps_set (i := 3) sc_Desk_answer.nd rfl (by first | exact Or.inl rfl | exact Or.inr rfl) (pe_meth (pv 0) (Tc_Desk T) (Tm_Desk_done T) c_Desk_done.1 (hr.mono (by decide)) c_Desk_done.2.1 .nil pass0 (pa_cons (pv 1) (pa_cons (pv 2) pa_nil))))))
      (pss_one (ps_ret (pv 3)))), ?_⟩)
  · exact h.len
  · obtain ⟨dd, ww, pp, dx, fs, evs, j1, j2⟩ := h.ins
    subst evs
    walk_at "jrd"
    exact h.mono fun v H1 hq => w_gname (w_ret (w_var rfl hq))
end
section
variable {P : Program} {w : World} {K : PySem.W.Frag} {mg : Str → Option Value} {base : Heap}
open TL PySem.NumText
/-! ### a desk's text -/
def cat2 (a b : Str) : Str := a ++ b
def nameRow (n : Str) : Str := ("name " : Str) ++ n
def joinRow (r : Str × Str × Int) : Str := ((((("join " : Str) ++ r.1) ++ (" " : Str)) ++ r.2.1) ++ (" " : Str)) ++ numS r.2.2
def wayRow (a b : Str) : Str := ((("way " : Str) ++ a) ++ (" " : Str)) ++ b
def turnRow (t : Int) : Str := ("turn " : Str) ++ numS t
def rowsOf (t : Int) (ns : List Str) (rs : List (Str × Str × Int)) (a b : Str) : List Str := turnRow t :: (ns.map nameRow ++ (rs.map joinRow ++ [wayRow a b]))
def ordsOf (t : Int) (ns : List Str) (rs : List (Str × Str × Int)) (a b : Str) : List (Str × List V) :=
  (("turn" : Str), [.int t]) :: (ns.map (fun n => (("name" : Str), [V.str n])) ++ (rs.map (fun r => (("join" : Str), [V.str r.1, .str r.2.1, .int r.2.2])) ++ [(("way" : Str), [V.str a, .str b])]))
theorem nm_free {z : Str} (h : IsNm z) : ∀ c ∈ tl z, c ≠ 32 ∧ c ≠ 10 := fun c hc => by
  have h1 := h.2.2 c hc
  have : ∀ c ∈ lettersS.cps.toList, c ≠ 32 ∧ c ≠ 10 := by decide +kernel
  exact this c h1
theorem num_free (i : Int) : ∀ c ∈ tl (numS i), c ≠ 32 ∧ c ≠ 10 := fun c hc => by
  have dig : ∀ n c, c ∈ numL n → c ≠ 32 ∧ c ≠ 10 := fun n c h => by
    have := numL_digits n c h
    omega
  rcases num_cases i with ⟨n, _, _, h2⟩ | ⟨n, _, _, h2⟩
  · rw [h2] at hc; exact dig _ _ hc
  · rw [h2] at hc
    rcases List.mem_cons.mp hc with rfl | h
    · omega
    · exact dig _ _ h
theorem split_sp {ws : List Str} (h : ws ≠ []) (f : ∀ w ∈ ws, ∀ c ∈ tl w, c ≠ 32 ∧ c ≠ 10) : Txt.split (Txt.join (" " : Str) ws) " " = ws :=
  split_join (s := 32) (S := []) (by decide +kernel) (by decide +kernel) h fun w hw hc => (f w hw 32 hc).1 rfl
theorem nm_len {z : Str} (h : IsNm z) : z.length ≤ 8 := h.2.1
theorem w_name : ∀ c ∈ tl ("name" : Str), c ≠ 32 ∧ c ≠ 10 := by decide +kernel
theorem w_join : ∀ c ∈ tl ("join" : Str), c ≠ 32 ∧ c ≠ 10 := by decide +kernel
theorem w_way : ∀ c ∈ tl ("way" : Str), c ≠ 32 ∧ c ≠ 10 := by decide +kernel
theorem w_turn : ∀ c ∈ tl ("turn" : Str), c ≠ 32 ∧ c ≠ 10 := by decide +kernel
theorem tl_sp : tl (" " : Str) = [32] := by decide +kernel
theorem nameRow_join (n : Str) : nameRow n = Txt.join (" " : Str) ["name", n] := by
  refine ext_tl ?_
  unfold nameRow
  rw [join_eq, tl_join, tl_append, tl_sp, show tl ("name " : Str) = tl ("name" : Str) ++ [32] by decide +kernel]
  simp [joinL]
theorem turnRow_join (t : Int) : turnRow t = Txt.join (" " : Str) ["turn", numS t] := by
  refine ext_tl ?_
  unfold turnRow
  rw [join_eq, tl_join, tl_append, tl_sp, show tl ("turn " : Str) = tl ("turn" : Str) ++ [32] by decide +kernel]
  simp [joinL]
theorem joinRow_join (r : Str × Str × Int) : joinRow r = Txt.join (" " : Str) ["join", r.1, r.2.1, numS r.2.2] := by
  refine ext_tl ?_
  unfold joinRow
  rw [join_eq, tl_join, tl_append, tl_append, tl_append, tl_append, tl_append, tl_sp, show tl ("join " : Str) = tl ("join" : Str) ++ [32] by decide +kernel]
  simp [joinL]
theorem wayRow_join (a b : Str) : wayRow a b = Txt.join (" " : Str) ["way", a, b] := by
  refine ext_tl ?_
  unfold wayRow
  rw [join_eq, tl_join, tl_append, tl_append, tl_append, tl_sp, show tl ("way " : Str) = tl ("way" : Str) ++ [32] by decide +kernel]
  simp [joinL]
structure TxtOk (t : Int) (ns : List Str) (rs : List (Str × Str × Int)) (a b : Str) : Prop where
  t0 : 0 ≤ t
  t1 : t ≤ 1000
  nm : ∀ n ∈ ns, IsNm n
  nd : ns.Nodup
  few : ns.length ≤ 60
  fewR : rs.length ≤ 200
  inn : ∀ r ∈ rs, r.1 ∈ ns ∧ r.2.1 ∈ ns
  st : ∀ r ∈ rs, r.2.2.natAbs ≤ 1000000000000
  ain : a ∈ ns
  bin : b ∈ ns
  ne : a ≠ b
theorem cons_len (x : Nat) (l : List Nat) : (x :: l).length = l.length + 1 := rfl
theorem row_ok {t : Int} {ns : List Str} {rs : List (Str × Str × Int)} {a b : Str} (h : TxtOk t ns rs a b) (i : Nat) (row : Str) (o : Str × List V) (h1 : (rowsOf t ns rs a b)[i]? = some row) (h2 : (ordsOf t ns rs a b)[i]? = some o) : RowOk (decide (i = 0)) row o := by
  have one : ∀ {ks zs : List Str} {vs : List V}, ks.length = zs.length → vs.length = zs.length → (∀ j < zs.length, Part (ks.getD j "") (zs.getD j "") (vs.getD j .non)) → Parts ks zs vs := fun {ks zs vs} l1 l2 p => ⟨l1, l2, fun j k z v hk hz hv => by
    have hj := (List.getElem?_eq_some_iff.mp hz).1
    have := p j hj
    rw [List.getD_eq_getElem?_getD, List.getD_eq_getElem?_getD, List.getD_eq_getElem?_getD, hk, hz, hv] at this
    exact this⟩
  cases i with
  | zero =>
    have e1 : turnRow t = row := by simpa [rowsOf] using h1
    have e2 : (("turn" : Str), [V.int t]) = o := by simpa [ordsOf] using h2
    subst e1 e2
    refine ⟨?_, fun z => ?_, ["turn"], [numS t], ?_, one rfl rfl fun j hj => ?_, by simp, .inl ⟨rfl, rfl, rfl⟩⟩
    · unfold turnRow
      rw [str_len_app]
      have := numS_len (i := t) (by have := h.t0; have := h.t1; omega)
      have e : ("turn " : Str).length = 5 := by decide +kernel
      omega
    · have := congrArg Str.length z
      unfold turnRow at this
      rw [str_len_app, show ("turn " : Str).length = 5 by decide +kernel, show ("" : Str).length = 0 by decide +kernel] at this
      omega
    · rw [turnRow_join]
      exact split_sp (by simp) fun w hw => by
        simp only [List.mem_cons, List.not_mem_nil, or_false] at hw
        rcases hw with rfl | rfl
        · exact w_turn
        · exact num_free t
    · have : j = 0 := by simp at hj; omega
      subst this
      exact .turn h.t0 h.t1
  | succ i =>
    have e0 : decide (i + 1 = 0) = false := by simp
    rw [e0]
    have h1 : (ns.map nameRow ++ (rs.map joinRow ++ [wayRow a b]))[i]? = some row := h1
    have h2 : (ns.map (fun n => (("name" : Str), [V.str n])) ++ (rs.map (fun r => (("join" : Str), [V.str r.1, .str r.2.1, .int r.2.2])) ++ [(("way" : Str), [V.str a, .str b])]))[i]? = some o := h2
    rcases Nat.lt_or_ge i ns.length with hi | hi
    · rw [List.getElem?_append_left (by rw [List.length_map]; exact hi)] at h1 h2
      rw [List.getElem?_map, List.getElem?_eq_getElem hi] at h1 h2
      have hm := h.nm ns[i] (List.getElem_mem hi)
      generalize ns[i] = n at *
      have e1 : nameRow n = row := by simpa using h1
      have e2 : (("name" : Str), [V.str n]) = o := by simpa using h2
      subst e1 e2
      refine ⟨?_, fun z => ?_, ["name"], [n], ?_, one rfl rfl fun j hj => ?_, by simp, .inr ⟨rfl, by simp [forms]⟩⟩
      · unfold nameRow
        rw [str_len_app, show ("name " : Str).length = 5 by decide +kernel]
        have := nm_len hm; omega
      · have := congrArg Str.length z
        unfold nameRow at this
        rw [str_len_app, show ("name " : Str).length = 5 by decide +kernel, show ("" : Str).length = 0 by decide +kernel] at this
        omega
      · rw [nameRow_join]
        exact split_sp (by simp) fun w hw => by
          simp only [List.mem_cons, List.not_mem_nil, or_false] at hw
          rcases hw with rfl | rfl
          · exact w_name
          · exact nm_free hm
      · have : j = 0 := by simp at hj; omega
        subst this
        exact .name hm
    · rw [List.getElem?_append_right (by rw [List.length_map]; exact hi), List.length_map] at h1 h2
      rcases Nat.lt_or_ge (i - ns.length) rs.length with hj | hj
      · rw [List.getElem?_append_left (by rw [List.length_map]; exact hj)] at h1 h2
        rw [List.getElem?_map, List.getElem?_eq_getElem hj] at h1 h2
        have hin := h.inn _ (List.getElem_mem hj)
        have hst := h.st _ (List.getElem_mem hj)
        generalize rs[i - ns.length] = r at *
        have e1 : joinRow r = row := by simpa using h1
        have e2 : (("join" : Str), [V.str r.1, .str r.2.1, .int r.2.2]) = o := by simpa using h2
        subst e1 e2
        have n1 := h.nm _ hin.1
        have n2 := h.nm _ hin.2
        refine ⟨?_, fun z => ?_, ["name", "name", "step"], [r.1, r.2.1, numS r.2.2], ?_, one rfl rfl fun j hj => ?_, by simp, .inr ⟨rfl, by simp [forms]⟩⟩
        · unfold joinRow
          rw [str_len_app, str_len_app, str_len_app, str_len_app, str_len_app, show ("join " : Str).length = 5 by decide +kernel, show (" " : Str).length = 1 by decide +kernel]
          have := nm_len n1; have := nm_len n2; have := numS_len hst; omega
        · have := congrArg Str.length z
          unfold joinRow at this
          rw [str_len_app, str_len_app, str_len_app, str_len_app, str_len_app, show ("join " : Str).length = 5 by decide +kernel, show ("" : Str).length = 0 by decide +kernel] at this
          omega
        · rw [joinRow_join]
          exact split_sp (by simp) fun w hw => by
            simp only [List.mem_cons, List.not_mem_nil, or_false] at hw
            rcases hw with rfl | rfl | rfl | rfl
            · exact w_join
            · exact nm_free n1
            · exact nm_free n2
            · exact num_free _
        · have hj : j < 3 := hj
          rcases (show j = 0 ∨ j = 1 ∨ j = 2 by omega) with rfl | rfl | rfl
          · exact .name n1
          · exact .name n2
          · exact .step hst
      · have hk : i - ns.length = rs.length := by
          have := (List.getElem?_eq_some_iff.mp h1).1
          simp at this; omega
        rw [List.getElem?_append_right (by rw [List.length_map]; exact hj), List.length_map, hk] at h1 h2
        have e1 : wayRow a b = row := by simpa using h1
        have e2 : (("way" : Str), [V.str a, .str b]) = o := by simpa using h2
        subst e1 e2
        have n1 := h.nm _ h.ain
        have n2 := h.nm _ h.bin
        refine ⟨?_, fun z => ?_, ["name", "name"], [a, b], ?_, one rfl rfl fun j hj => ?_, by simp, .inr ⟨rfl, by simp [forms]⟩⟩
        · unfold wayRow
          rw [str_len_app, str_len_app, str_len_app, show ("way " : Str).length = 4 by decide +kernel, show (" " : Str).length = 1 by decide +kernel]
          have := nm_len n1; have := nm_len n2; omega
        · have := congrArg Str.length z
          unfold wayRow at this
          rw [str_len_app, str_len_app, str_len_app, show ("way " : Str).length = 4 by decide +kernel, show ("" : Str).length = 0 by decide +kernel] at this
          omega
        · rw [wayRow_join]
          exact split_sp (by simp) fun w hw => by
            simp only [List.mem_cons, List.not_mem_nil, or_false] at hw
            rcases hw with rfl | rfl | rfl
            · exact w_way
            · exact nm_free n1
            · exact nm_free n2
        · have hj : j < 2 := hj
          rcases (show j = 0 ∨ j = 1 by omega) with rfl | rfl
          · exact .name n1
          · exact .name n2
end
section
variable {P : Program} {w : World} {K : PySem.W.Frag} {mg : Str → Option Value} {base : Heap}
theorem gYes {g : TG} {x : V} {σ0 : L2.St} {H : Hp} {te : TE} {A : L2.St → Prop} {KY : VK} {KN : Hp → Prop} (h : g x σ0 H fun σ2 H2 => A σ2 ∧ te σ2 H2 KY) : g x σ0 H fun σ2 H2 => A σ2 ∧ tYes σ2 H2 fun b H3 => if b = true then te σ2 H3 KY else KN H3 := by
  have e : (fun (σ2 : L2.St) (H2 : Hp) => A σ2 ∧ tYes σ2 H2 fun b H3 => if b = true then te σ2 H3 KY else KN H3) = fun σ2 H2 => A σ2 ∧ te σ2 H2 KY := by
    funext σ2 H2
    show (A σ2 ∧ (if true = true then te σ2 H2 KY else KN H2)) = _
    rw [if_pos rfl]
  rw [e]
  exact h
/-- a comprehension whose turns may change what stood; its own list is told of -/
theorem lc_F {J : It} {n : Nat} {G : Hp → Prop} {Y : Nat → Hp → V → Hp → Prop} {te : TE} {σ : L2.St} {H : Hp} {Q : VK} (w : Walk J n G Y) {g : TG} {vs : List Nat} (hn : n ≤ 1000000) (Pv : Addr → Nat → List V → Hp → Prop)
    (h0 : ∀ D H', H D = none → Same H H' → H' D = some (.lst []) → Pv D 0 [] H') (hG : ∀ D i acc H', Pv D i acc H' → G H')
    (hs : ∀ D i x acc H1 H1' (KY : VK), i < n → H D = none → H1 D = some (.lst acc) → acc.length = i → Pv D i acc H1 → Y i H1 x H1' → (∀ y H4, H4 D = some (.lst acc) → (∀ H5, Fr1 D H4 H5 → Pv D (i + 1) (acc ++ [y]) H5) → KY y H4) → g x (wipe σ vs) H1' fun σ2 H2 => wipe σ2 vs = wipe σ vs ∧ te σ2 H2 KY)
    (hd : ∀ acc D H', H D = none → H' D = some (.lst acc) → Pv D n acc H' → acc.length = n → Q (.ref D) H') : LcAt J g tYes te vs σ Q H := by
  intro D hD
  refine lc_it w (fun i H' => ∃ acc, H' D = some (.lst acc) ∧ acc.length = i ∧ Pv D i acc H') ⟨[], upd_same, rfl, h0 D _ hD (same_new hD) upd_same⟩ (fun i H' _ ⟨acc, _, _, p⟩ => hG D i acc H' p) ?_ ?_
  · rintro i x H1 H1' hi ⟨acc, hacc, hl, p⟩ hy
    exact gYes (hs D i x acc H1 H1' _ hi hD hacc hl p hy fun y H4 h4 p4 => ⟨acc, h4, by rw [sizeLine_eq]; omega, acc ++ [y], upd_same, by simp [hl], p4 _ Fr1.upd⟩)
  · rintro H' ⟨acc, hacc, hl, p⟩
    exact hd acc D H' hD hacc p hl
section
variable {K : PySem.W.Frag} {G H : Hp} {d x pl pd wd : Addr} {turn : Int} {Ss : List SD}
theorem DeskAt.frO {H' : Hp} {m : Addr} (A : DeskAt K G H d x pl pd wd turn Ss) (f : Fr1 m H H') (g : G m = Option.none) (n1 : m ≠ pl) (n2 : m ≠ pd) (n3 : m ≠ wd) : DeskAt K G H' d x pl pd wd turn Ss := by
  obtain ⟨k, h2, l2⟩ := A.hpd
  obtain ⟨k', h3, l3⟩ := A.hwd
  exact { A with mesh := A.mesh.fr f g n1.symm, hpd := ⟨k, f _ _ h2 n2.symm, l2⟩, hwd := ⟨k', f _ _ h3 n3.symm, l3⟩ }
theorem DeskAt.regh {G' : Hp} (A : DeskAt K G H d x pl pd wd turn Ss) (e : Same G G') (s : Same G' H) (g1 : G' pl = Option.none) (g2 : G' pd = Option.none) (g3 : G' wd = Option.none) : DeskAt K G' H d x pl pd wd turn Ss := by
  obtain ⟨dx, fs, i1, i2⟩ := A.ins
  exact ⟨A.mesh.regh e s g1, ⟨dx, fs, e _ _ i1, i2⟩, A.hpd, A.hwd, g2, g3, A.npw⟩
end
def numR (rs : List (Str × Str × Int)) : List Row := rs.zipIdx.map fun q => (q.2, q.1)
theorem numR_snoc (rs : List (Str × Str × Int)) (r : Str × Str × Int) : numR (rs ++ [r]) = numR rs ++ [(rs.length, r)] := by
  unfold numR
  rw [List.zipIdx_append, List.map_append]
  simp
theorem numR_mem {rs : List (Str × Str × Int)} {q : Row} (h : q ∈ numR rs) : q.2 ∈ rs := by
  unfold numR at h
  obtain ⟨p, hp, rfl⟩ := List.mem_map.mp h
  obtain ⟨r, i⟩ := p
  have := List.mem_zipIdx hp
  rw [this.2.2]
  exact List.getElem_mem _
/-- the desk's standing after i rows -/
structure DkP (ns : List Str) (rs : List (Str × Str × Int)) (i : Nat) (D : SD) : Prop where
  nm : D.names.Perm (ns.take i)
  rows : D.rows = numR (rs.take (i - ns.length))
  co : D.coming = (rs.take (i - ns.length)).length
theorem pd_mem {a b c m : Addr} (h : ¬ m ∈ [a, b, c]) : m ≠ a ∧ m ≠ b ∧ m ≠ c := by simpa using h
def sp_run (K : PySem.W.Frag) : Sp := fun vs H Q _ => ∃ (text : Str) (turn : Int) (ns : List Str) (rs : List (Str × Str × Int)) (a b : Str) (sp : Str → Int) (w0 : Wy), vs = [.str text] ∧ Txt.split text "\n" = rowsOf turn ns rs a b ∧ text.length ≤ 1000000 ∧ TxtOk turn ns rs a b ∧
  (∀ r ∈ rs, (r.2.2 - (sp r.2.1 - sp r.1)) % turn = 0) ∧
  (∀ (D : SD) (L : List (Str × Wy)) (w : Wy), D.Ok → D.names.Perm ns → D.rows = numR rs → D.lab a = D.lab b ∧ (Grow D.edges a L → Closed D.edges L → (b, w) ∈ L → w = w0)) ∧
  ∀ (p : Addr) (zs : List Str) (H' : Hp), H p = none → Same H H' → H' p = some (.lst (zs.map V.str ++ [.str (shWay w0)])) → Q (.ref p) H'
abbrev N_run : List Str := ["text", "orders", "desk", "word", "parts"]
theorem sc_run : FnScope N_run ["text"] (defScope s_run) := ⟨rfl, rfl, rfl, by decide +kernel, rfl, by decide +kernel, by decide +kernel⟩
theorem ok_run (T : Txt w K mg) : OkF P w K mg base 8 (gA K "run") ["text"] (sp_run K) := by
  obtain ⟨fd_orders_in, c_orders_in⟩ := ok_orders_in (P := P) (base := base) T
  obtain ⟨fd_Desk_init, c_Desk_init⟩ := ok_Desk_init (P := P) (base := base) T
  obtain ⟨fd_Desk_answer, c_Desk_answer⟩ := ok_Desk_answer (P := P) (base := base) T
  have cl_Desk := Tc_Desk T
  refine okF (Td_run T) sc_run (fun _ _ _ _ _ _ us hl => match us, hl with | [_], _ => rfl) (fun vs H Q E h => ?_) (fun cdv A outer s H vs Q E hr h => have hu := hu_of hr; ⟨_, (pss_cons (ps_set (i := 1) sc_run.nd rfl (by first | exact Or.inl rfl | exact Or.inr rfl) (pe_call c_orders_in.1 (hr.mono (by decide)) rfl (Tg_orders_in T) c_orders_in.2.2 c_orders_in.2.1 .nil pass0 (pa_cons (pv 0) pa_nil)))
      (pss_cons (ps_set (i := 2) sc_run.nd rfl (by first | exact Or.inl rfl | exact Or.inr rfl) (pe_make (Tk_Desk T) c_Desk_init.1 (hr.mono (by decide)) rfl (Tg_Desk T) c_Desk_init.2.1 .nil pass0 (pa_cons (pe_ix (ix_listK K) (pe_ix (ix_tupK K) (pe_ix (ix_listK K) (pv 1) pe_int (fun _ _ => rfl)) pe_int (fun _ _ => rfl)) pe_int (fun _ _ => rfl)) pa_nil)))
      (pss_one (ps_ret (pe_lc (own := [("word", 3), ("parts", 4)]) (tt := tYes) rfl sc_run.nd (pi_list (pe_slice (sl_listK K) (pv 1) (po_some pe_int) po_none)) (blkOk_by (N := N_run) (sc := defScope s_run) (by decide +kernel)) (fun _ _ _ _ _ => (pg_tupK K (n := 2) rfl (pgs_cons (pg_name (i := 3) sc_run.nd rfl (by first | exact Or.inl rfl | exact Or.inr rfl)) (pgs_cons (pg_name (i := 4) sc_run.nd rfl (by first | exact Or.inl rfl | exact Or.inr rfl)) pgs_nil)))) (fun _ _ _ _ _ => pts_nil) (fun _ _ _ _ _ => (pe_meth (pv 2) (Tc_Desk T) (Tm_Desk_answer T) c_Desk_answer.1 (hr.mono (by decide)) c_Desk_answer.2.1 .nil pass0 (pa_cons (pv 3) (pa_cons (pv 4) pa_nil))))))))), ?_⟩)
  · obtain ⟨text, turn, ns, rs, a, b, sp, w0, rfl, _⟩ := h
    rfl
  · obtain ⟨text, turn, ns, rs, a, b, sp, w0, rfl, hsp, hlt, hok, hst, hway, q⟩ := h
    have lo : (rowsOf turn ns rs a b).length = (ordsOf turn ns rs a b).length := by simp [rowsOf, ordsOf]
    walk_at "jrd"
    refine ⟨text, _, ordsOf turn ns rs a b, rfl, hsp, hlt, lo, by simp [rowsOf], by have := hok.few; have := hok.fewR; simp [rowsOf]; omega, row_ok hok, fun p ws H1 hn1 e1 h1 O1 => ?_⟩
    have o0 : (ordsOf turn ns rs a b)[0]? = some (("turn" : Str), [V.int turn]) := rfl
    have l1 := O1.1
    have lo2 : (ordsOf turn ns rs a b).length = ns.length + rs.length + 2 := by simp [ordsOf]; omega
    have w0' : 0 < ws.length := by omega
    obtain ⟨t0, l0, hv0, ht0, hl0, _⟩ := O1.2 0 ws[0] _ (List.getElem?_eq_getElem w0') o0
    have hws0 : atI ws 0 = some (.ref t0) := by
      rw [← hv0]
      exact atI_nat (j := 0) (by simp [w0'])
    have ha : atI [V.int turn] 0 = some (.int turn) := atI_zero
    walk_at "jrd"
    refine r_make fun d dx H2 hn2 e2 hd => ?_
    refine ⟨d, dx, turn, H1, rfl, hd, e2, hn2, fun H3 G3 x pl pd wd f3 s3 g3 A3 => ⟨rfl, ?_⟩⟩
    have h13 := A3.mesh.sub _ _ (s3 _ _ h1)
    have hd3 : H d = none := e1.free hn2
    clear hd h1
    walk_at "jrd"
    have hws2 : cutV ws (some 1) none = ws.drop 1 := by
      have := cutV_from ws 1
      rwa [show ((1 : Nat) : Int) = 1 from rfl] at this
    rw [hws2] at hp
    have sub : Same G3 (rm [pl, pd, wd] H') := rm_sub (A3.mesh.sub.trans he) fun m hm => by
      simp only [List.mem_cons, List.not_mem_nil, or_false] at hm
      rcases hm with rfl | rfl | rfl
      · exact A3.mesh.gpl
      · exact A3.gpd
      · exact A3.gwd
    have A4 := (A3.same he).regh sub (rm_in _ _) (rm_no (by simp)) (rm_no (by simp)) (rm_no (by simp))
    have O4 := O1.same (s3.trans sub)
    obtain ⟨n1, n2, n3⟩ := A3.none hn
    have hp4 : rm [pl, pd, wd] H' p_1 = some (.lst (ws.drop 1)) := (rm_of (by simp [n1, n2, n3])).trans hp
    have e14 : Same H1 (rm [pl, pd, wd] H') := s3.trans sub
    have s4 := rm_in [pl, pd, wd] H'
    have e0H : Same H H' := (e1.trans e14).trans s4
    generalize rm [pl, pd, wd] H' = G4 at *
    have lw : (ws.drop 1).length = ns.length + rs.length + 1 := by rw [List.length_drop]; omega
    have few := hok.few
    have fewR := hok.fewR
    refine lc_F (n := ns.length + rs.length + 1) (lw ▸ walk_list) (by omega) (fun Dd i acc H5 => Same G4 H5 ∧ ((i ≤ ns.length + rs.length ∧ ∃ (G : Hp) (Ss : List SD) (Dm : SD) (zs : List Str), Same G4 G ∧ DeskAt K G H5 d x pl pd wd turn (Ss ++ [Dm]) ∧ DkP ns rs i Dm ∧ Ss.length = i ∧ G Dd = none ∧ acc = zs.map V.str) ∨
        (i = ns.length + rs.length + 1 ∧ ∃ zs : List Str, acc = zs.map V.str ++ [.str (shWay w0)]))) ?_ (fun Dd i acc H5 p => SqL.of (p.1 _ _ hp4)) ?_ ?_
    · intro Dd H5 hDd e5 h5
      exact ⟨s4.trans e5, .inl ⟨by omega, G4, [], ⟨[], [], 0⟩, [], fun _ _ h => h, A4.same e5, ⟨by simp, by simp [numR], by simp⟩, rfl, A4.mesh.sub.free hDd, rfl⟩⟩
    · rintro Dd i y acc H5 H5' KY hi hDd hacc hl ⟨s5, hh⟩ ⟨rfl, hy⟩ hY
      rcases hh with ⟨hiN, G, Ss, Dm, zs, g5, A5, P5, hSs, gD, rfl⟩ | ⟨z, _⟩
      rotate_left
      · omega
      have hy2 : ws[i + 1]? = some y := by
        rw [List.getElem?_drop] at hy
        rw [← hy]; congr 1; omega
      have hio : i + 1 < (ordsOf turn ns rs a b).length := by omega
      obtain ⟨t, l, rfl, ht, hlo, _⟩ := O4.2 (i + 1) y _ hy2 (List.getElem?_eq_getElem hio)
      have ho : (ordsOf turn ns rs a b)[i + 1]? = some (ordsOf turn ns rs a b)[i + 1] := List.getElem?_eq_getElem hio
      generalize (ordsOf turn ns rs a b)[i + 1] = o at *
      have ht5 := s5 _ _ ht
      have hl5 := s5 _ _ hlo
      obtain ⟨dx', fs', i1, i2, _⟩ := A5.ins
      have j1 := A5.mesh.sub _ _ i1
      obtain ⟨m1, m2, m3⟩ := A4.none hDd
      have hG4D : G4 Dd = none := A4.mesh.sub.free hDd
      have notin : ¬ Dd ∈ [pl, pd, wd] := by simp [m1, m2, m3]
      have ok5 := A5.mesh.lastOk
      have fin : ∀ (z : Str) (H6 G6 : Hp) (Dm' : SD), FrM [pl, pd, wd] H5' H6 → GrowM G H5' G6 → DeskAt K G6 H6 d x pl pd wd turn (Ss ++ [Dm] ++ [Dm']) → DkP ns rs (i + 1) Dm' → i + 1 ≤ ns.length + rs.length → KY (.str z) H6 := by
        intro z H6 G6 Dm' f6 g6 A6 P6 hle
        exact hY _ H6 (f6 _ _ hacc notin) fun H7 f7 => ⟨Same.mut ((g5.trans g6.1).trans A6.mesh.sub) hG4D f7, .inl ⟨hle, G6, Ss ++ [Dm], Dm', zs ++ [z], g5.trans g6.1, A6.frO f7 (g6.2 Dd (by rw [hacc]; simp) gD) m1 m2 m3, P6, by simp [hSs], g6.2 Dd (by rw [hacc]; simp) gD, by rw [List.map_append]; rfl⟩⟩
      refine w_gtup (r_unp ht5 rfl (w_gcons (w_gname (w_gcons (w_gname (w_gnil ⟨rfl, ?_⟩))))))
      walk_at "jrd"
      have ho : (ns.map (fun n => (("name" : Str), [V.str n])) ++ (rs.map (fun r => (("join" : Str), [V.str r.1, .str r.2.1, .int r.2.2])) ++ [(("way" : Str), [V.str a, .str b])]))[i]? = some o := ho
      rcases Nat.lt_or_ge i ns.length with hin | hin
      · rw [List.getElem?_append_left (by rw [List.length_map]; exact hin), List.getElem?_map, List.getElem?_eq_getElem hin] at ho
        have hn : ns[i]? = some ns[i] := List.getElem?_eq_getElem hin
        have hnm := hok.nm ns[i] (List.getElem_mem hin)
        have hnot : ¬ ns[i] ∈ ns.take i := fun z => by
          obtain ⟨j', hj', hje⟩ := List.mem_iff_getElem.mp z
          rw [List.length_take] at hj'
          have h2 : ns[j']? = some ns[i] := by rw [← hje, List.getElem_take]; exact List.getElem?_eq_getElem _
          have h3 := (List.getElem?_inj (by omega) hok.nd).mp (h2.trans hn.symm)
          omega
        generalize ns[i] = n at *
        have e2 : (("name" : Str), [V.str n]) = o := by simpa using ho
        subst e2
        refine .inl ⟨d, l, n, rfl, hl5, d, x, pl, pd, wd, n, turn, Ss, Dm, G, rfl, A5, hnm, fun z => hnot (P5.nm.mem_iff.mp z), by rw [P5.nm.length_eq, List.length_take]; omega, by omega, fun z H6 G6 ys f6 g6 hys A6 => fin z H6 G6 _ f6 g6 A6 ⟨?_, ?_, ?_⟩ (by omega)⟩
        · rw [take_more hn]
          exact hys.trans (P5.nm.append_right _)
        · have := P5.rows
          rw [show i - ns.length = 0 by omega] at this
          rw [show i + 1 - ns.length = 0 by omega]
          exact this
        · have := P5.co
          rw [show i - ns.length = 0 by omega] at this
          rw [show i + 1 - ns.length = 0 by omega]
          exact this
      · rw [List.getElem?_append_right (by rw [List.length_map]; exact hin), List.length_map] at ho
        have hnp : Dm.names.Perm ns := by
          have := P5.nm
          rwa [List.take_of_length_le hin] at this
        rcases Nat.lt_or_ge (i - ns.length) rs.length with hj | hj
        · rw [List.getElem?_append_left (by rw [List.length_map]; exact hj), List.getElem?_map, List.getElem?_eq_getElem hj] at ho
          have hr : rs[i - ns.length]? = some rs[i - ns.length] := List.getElem?_eq_getElem hj
          have hinn := hok.inn _ (List.getElem_mem hj)
          have hss := hst _ (List.getElem_mem hj)
          generalize rs[i - ns.length] = r at *
          have e2 : (("join" : Str), [V.str r.1, .str r.2.1, .int r.2.2]) = o := by simpa using ho
          subst e2
          have hc := P5.co
          rw [List.length_take] at hc
          refine .inr (.inl ⟨d, l, r.1, r.2.1, r.2.2, rfl, hl5, d, x, pl, pd, wd, r.1, r.2.1, r.2.2, turn, Ss, Dm, G, sp, rfl, A5, hnp.mem_iff.mpr hinn.1, hnp.mem_iff.mpr hinn.2, fun q hq => ?_, hok.t0, hss, by omega, by omega, fun z H6 G6 f6 g6 A6 => fin z H6 G6 _ f6 g6 A6 ⟨?_, ?_, ?_⟩ (by omega)⟩)
          · rw [P5.rows] at hq
            exact hst _ (List.mem_of_mem_take (numR_mem hq))
          · rw [List.take_of_length_le (by omega)]; exact hnp
          · rw [show i + 1 - ns.length = (i - ns.length) + 1 by omega, take_more hr, numR_snoc, ← P5.rows, ← P5.co]; rfl
          · rw [show i + 1 - ns.length = (i - ns.length) + 1 by omega, take_more hr]
            show Dm.coming + 1 = _
            rw [P5.co]; simp
        · have hk : i - ns.length = rs.length := by omega
          rw [List.getElem?_append_right (by rw [List.length_map]; exact hj), List.length_map, hk] at ho
          have e2 : (("way" : Str), [V.str a, .str b]) = o := by simpa using ho
          subst e2
          have hrw : Dm.rows = numR rs := by
            have := P5.rows
            rwa [List.take_of_length_le hj] at this
          refine .inr (.inr ⟨d, l, a, b, rfl, hl5, d, x, pl, pd, wd, a, b, turn, Ss, Dm, G, rfl, A5, hnp.mem_iff.mpr hok.ain, hnp.mem_iff.mpr hok.bin, (hway Dm [] [] ok5 hnp hrw).1, hok.ne, fun H6 L w e6 g c hw => hY _ H6 (e6 _ _ hacc) fun H7 f7 => ⟨Same.mut (s5.trans e6) hG4D f7, .inr ⟨by omega, zs, ?_⟩⟩⟩)
          rw [(hway Dm L w ok5 hnp hrw).2 g c hw]
    · rintro acc Dd H5 hDd hacc ⟨s5, hh⟩ hl
      rcases hh with ⟨z, _⟩ | ⟨_, zs, rfl⟩
      · omega
      · exact q Dd zs H5 (e0H.free hDd) ((e1.trans e14).trans s5) hacc
end
section
variable {P : Program} {w : World} {K : PySem.W.Frag} {mg : Str → Option Value} {base : Heap}
/-! ### a chain of names -/
theorem posIn_at : ∀ {l : List Str} {n : Str}, n ∈ l → l[posIn l n]? = some n
  | [], n, h => by cases h
  | m :: r, n, h => by
    show (m :: r)[if m = n then 0 else posIn r n + 1]? = some n
    by_cases e : m = n
    · rw [if_pos e, e]; rfl
    · rw [if_neg e]
      have h' : n ∈ r := by
        rcases List.mem_cons.mp h with q | q
        · exact absurd q.symm e
        · exact q
      rw [List.getElem?_cons_succ]; exact posIn_at h'
theorem posIn_lt {l : List Str} {n : Str} (h : n ∈ l) : posIn l n < l.length := (List.getElem?_eq_some_iff.mp (posIn_at h)).1
theorem posIn_inj {l : List Str} {x y : Str} (h1 : x ∈ l) (h2 : y ∈ l) : x = y ↔ posIn l x = posIn l y := by
  refine ⟨fun e => by rw [e], fun e => ?_⟩
  have a := posIn_at h1
  rw [e, posIn_at h2] at a
  exact (Option.some.inj a).symm
structure ChainP (ns : List Str) (rs : List (Str × Str × Int)) : Prop where
  inn : ∀ r ∈ rs, r.1 ∈ ns ∧ r.2.1 ∈ ns
  link : ∀ (k : Nat) (r : Str × Str × Int), rs[k]? = some r → k + 1 < ns.length → (posIn ns r.1 = k ∧ posIn ns r.2.1 = k + 1) ∨ (posIn ns r.1 = k + 1 ∧ posIn ns r.2.1 = k)
theorem tri_numR_snoc (rs : List (Str × Str × Int)) (r : Str × Str × Int) : tri (numR (rs ++ [r])) = tri (numR rs) ++ [(rs.length, r.1, r.2.1)] := by
  rw [numR_snoc]
  unfold tri
  rw [List.map_append]; rfl
theorem ChainP.init {ns : List Str} {rs : List (Str × Str × Int)} {r : Str × Str × Int} (C : ChainP ns (rs ++ [r])) : ChainP ns rs :=
  ⟨fun q hq => C.inn q (List.mem_append_left _ hq), fun k q hq => C.link k q (by rw [List.getElem?_append_left (List.getElem?_eq_some_iff.mp hq).1]; exact hq)⟩
theorem chain_labs {ns : List Str} (rs : List (Str × Str × Int)) : ChainP ns rs → 0 < ns.length →
    (∀ x ∈ ns, ∀ y ∈ ns, (labs (tri (numR rs))).1 x = (labs (tri (numR rs))).1 y ↔ posIn ns x = posIn ns y ∨ (posIn ns x ≤ min rs.length (ns.length - 1) ∧ posIn ns y ≤ min rs.length (ns.length - 1))) ∧
    (labs (tri (numR rs))).2 = List.range (min rs.length (ns.length - 1)) := by
  refine snocInd (P := fun rs => ChainP ns rs → 0 < ns.length →
    (∀ x ∈ ns, ∀ y ∈ ns, (labs (tri (numR rs))).1 x = (labs (tri (numR rs))).1 y ↔ posIn ns x = posIn ns y ∨ (posIn ns x ≤ min rs.length (ns.length - 1) ∧ posIn ns y ≤ min rs.length (ns.length - 1))) ∧
    (labs (tri (numR rs))).2 = List.range (min rs.length (ns.length - 1))) ?_ ?_ rs
  · intro _ _
    refine ⟨fun x hx y hy => ?_, by simp [numR, tri, labs]⟩
    show x = y ↔ _
    rw [posIn_inj hx hy]
    simp only [List.length_nil, Nat.zero_min]
    omega
  · intro l r ih C h0
    obtain ⟨ih1, ih2⟩ := ih C.init h0
    obtain ⟨ha, hb⟩ := C.inn r (by simp)
    have pa := posIn_lt ha
    have pb := posIn_lt hb
    rw [tri_numR_snoc, labs_snoc]
    unfold lstp
    have hlen : (l ++ [r]).length = l.length + 1 := by simp
    rw [hlen]
    by_cases hk : l.length + 1 < ns.length
    · have hl := C.link l.length r (by simp) hk
      have hc : min l.length (ns.length - 1) = l.length := by omega
      have hc' : min (l.length + 1) (ns.length - 1) = l.length + 1 := by omega
      rw [hc] at ih1 ih2
      rw [hc']
      have ne : ¬ (labs (tri (numR l))).1 r.1 = (labs (tri (numR l))).1 r.2.1 := fun z => by
        have := (ih1 _ ha _ hb).mp z
        omega
      rw [if_neg ne]
      refine ⟨fun x hx y hy => ?_, ?_⟩
      · show relab _ _ _ x = relab _ _ _ y ↔ _
        rw [relab_iff ne, ih1 x hx y hy, ih1 x hx _ ha, ih1 y hy _ hb, ih1 x hx _ hb, ih1 y hy _ ha]
        have px := posIn_lt hx
        have py := posIn_lt hy
        rcases hl with ⟨e1, e2⟩ | ⟨e1, e2⟩ <;> rw [e1, e2] <;> omega
      · show (labs (tri (numR l))).2 ++ [l.length] = _
        rw [ih2, List.range_succ]
    · have hc : min l.length (ns.length - 1) = ns.length - 1 := by omega
      have hc' : min (l.length + 1) (ns.length - 1) = ns.length - 1 := by omega
      rw [hc] at ih1 ih2
      rw [hc']
      have eq : (labs (tri (numR l))).1 r.1 = (labs (tri (numR l))).1 r.2.1 := (ih1 _ ha _ hb).mpr (.inr (by omega))
      rw [if_pos eq]
      exact ⟨ih1, ih2⟩
theorem numR_fst (rs : List (Str × Str × Int)) : (numR rs).map (·.1) = List.range rs.length := by
  refine snocInd (P := fun rs => (numR rs).map (·.1) = List.range rs.length) rfl (fun l x ih => ?_) rs
  rw [numR_snoc, List.map_append, ih, List.length_append, List.length_singleton, List.range_succ]; rfl
theorem numR_in {rs : List (Str × Str × Int)} {k : Nat} {r : Str × Str × Int} (h : rs[k]? = some r) : (k, r) ∈ numR rs := by
  unfold numR
  exact List.mem_map.mpr ⟨(r, k), List.mem_zipIdx_iff_getElem?.mpr h, rfl⟩
theorem numR_get {rs : List (Str × Str × Int)} {q : Row} (h : q ∈ numR rs) : rs[q.1]? = some q.2 := by
  unfold numR at h
  obtain ⟨⟨r, k⟩, hp, rfl⟩ := List.mem_map.mp h
  exact List.mem_zipIdx_iff_getElem?.mp hp
theorem numR_nd (rs : List (Str × Str × Int)) : ((numR rs).map (·.1)).Nodup := by rw [numR_fst]; exact List.nodup_range
theorem rowOf_numR {rs : List (Str × Str × Int)} {k : Nat} {r : Str × Str × Int} (h : rs[k]? = some r) : rowOf (numR rs) k = some r := rowOf_of (numR_nd rs) (numR_in h)
theorem edR_numR {rs : List (Str × Str × Int)} {k : Nat} {r : Str × Str × Int} (h : rs[k]? = some r) : edR (numR rs) k = (r.1, r.2.1) := by unfold edR; rw [rowOf_numR h]
theorem side_at {ns : List Str} {rs : List (Str × Str × Int)} (nd : ns.Nodup) {k : Nat} {r : Str × Str × Int} (h : rs[k]? = some r) (hr : r.1 ∈ ns) : sideOf rs ns k = if posIn ns r.1 = k then 1 else -1 := by
  unfold sideOf
  rw [h]
  show (if some r.1 = ns[k]? then (1 : Int) else -1) = _
  by_cases e : posIn ns r.1 = k
  · rw [if_pos e, if_pos]
    rw [← e]; exact (posIn_at hr).symm
  · rw [if_neg e, if_neg]
    exact fun z => e (posIn_get nd z.symm)
theorem chainW_zero (rs : List (Str × Str × Int)) (ns : List Str) (a : Nat) : chainW rs ns a 0 = [] := rfl
/-- the whole chain stands -/
structure ChainD (ns : List Str) (rs : List (Str × Str × Int)) (D : SD) : Prop where
  P : ChainP ns rs
  nd : ns.Nodup
  len : ns.length - 1 ≤ rs.length
  two : 2 ≤ ns.length
  rows : D.rows = numR rs
  ok : D.Ok
theorem ChainD.held {ns : List Str} {rs : List (Str × Str × Int)} {D : SD} (C : ChainD ns rs D) : D.held = List.range (ns.length - 1) := by
  have := (chain_labs rs C.P (by have := C.two; omega)).2
  rw [Nat.min_eq_right C.len] at this
  unfold SD.held holdOf
  rw [C.rows]; exact this
theorem ChainD.lab {ns : List Str} {rs : List (Str × Str × Int)} {D : SD} (C : ChainD ns rs D) {x y : Str} (hx : x ∈ ns) (hy : y ∈ ns) : D.lab x = D.lab y := by
  have := (chain_labs rs C.P (by have := C.two; omega)).1 x hx y hy
  rw [Nat.min_eq_right C.len] at this
  unfold SD.lab
  rw [C.rows]
  exact this.mpr (.inr ⟨by have := posIn_lt hx; omega, by have := posIn_lt hy; omega⟩)
theorem ChainD.row {ns : List Str} {rs : List (Str × Str × Int)} {D : SD} (C : ChainD ns rs D) {k : Nat} (hk : k < ns.length - 1) : ∃ r, rs[k]? = some r ∧ edR D.rows k = (r.1, r.2.1) ∧ ((posIn ns r.1 = k ∧ posIn ns r.2.1 = k + 1) ∨ (posIn ns r.1 = k + 1 ∧ posIn ns r.2.1 = k)) ∧ r.1 ∈ ns ∧ r.2.1 ∈ ns := by
  have h : rs[k]? = some (rs[k]'(by have := C.len; omega)) := List.getElem?_eq_getElem _
  exact ⟨_, h, by rw [C.rows]; exact edR_numR h, C.P.link k _ h (by omega), C.P.inn _ (List.mem_of_getElem? h)⟩
theorem ChainD.way {ns : List Str} {rs : List (Str × Str × Int)} {D : SD} (C : ChainD ns rs D) {a b : Str} {L : List (Str × Wy)} {w : Wy} (ha : posIn ns a = 0) (g : Grow D.edges a L) (hw : (b, w) ∈ L) : w = chainW rs ns 0 (posIn ns b) := by
  refine (Grow.way (edgesOf_of D.rows D.held) g (W := fun n => chainW rs ns 0 (posIn ns n)) (by rw [ha]; rfl) (fun k hk => ?_) (b, w) hw).1
  rw [C.held, List.mem_range] at hk
  obtain ⟨r, hr, he, hl, h1, h2⟩ := C.row hk
  rw [he]
  have hs := side_at C.nd hr h1
  rcases hl with ⟨e1, e2⟩ | ⟨e1, e2⟩
  · refine .inl ?_
    show chainW rs ns 0 (posIn ns r.2.1) = chainW rs ns 0 (posIn ns r.1) ++ _
    rw [e1, e2, chainW_snoc, Nat.zero_add, hs, if_pos e1]
  · refine .inr ?_
    show chainW rs ns 0 (posIn ns r.1) = chainW rs ns 0 (posIn ns r.2.1) ++ _
    rw [e1, e2, chainW_snoc, Nat.zero_add, hs, if_neg (by omega)]
/-! one of the chain left out -/
abbrev Ro (ns : List Str) (at' : Nat) : Nat → Prop := fun j => j < ns.length - 1 ∧ j ≠ at'
theorem ChainD.cn_side {ns : List Str} {rs : List (Str × Str × Int)} {D : SD} (C : ChainD ns rs D) {t : Nat} {x y : Str} (hx : x ∈ ns) (h : Cn (edR D.rows) (Ro ns t) x y) : y ∈ ns ∧ (posIn ns x ≤ t ↔ posIn ns y ≤ t) := by
  induction h with
  | refl => exact ⟨hx, Iff.rfl⟩
  | @fwd b k _ hk e ih =>
    obtain ⟨r, hr, he, hl, h1, h2⟩ := C.row hk.1
    rw [he] at e ⊢
    subst e
    refine ⟨h2, ih.2.trans ?_⟩
    show posIn ns r.1 ≤ t ↔ posIn ns r.2.1 ≤ t
    have := hk.2
    omega
  | @bwd b k _ hk e ih =>
    obtain ⟨r, hr, he, hl, h1, h2⟩ := C.row hk.1
    rw [he] at e ⊢
    subst e
    refine ⟨h1, ih.2.trans ?_⟩
    show posIn ns r.2.1 ≤ t ↔ posIn ns r.1 ≤ t
    have := hk.2
    omega
theorem ChainD.step_cn {ns : List Str} {rs : List (Str × Str × Int)} {D : SD} (C : ChainD ns rs D) {t : Nat} {x : Str} (hx : x ∈ ns) : ∀ (d : Nat) (y : Str), y ∈ ns → posIn ns y = posIn ns x + d → (posIn ns x ≤ t ↔ posIn ns y ≤ t) → Cn (edR D.rows) (Ro ns t) x y := by
  intro d
  induction d with
  | zero =>
    intro y hy e _
    have : x = y := (posIn_inj hx hy).mpr (by omega)
    subst this; exact .refl _
  | succ d ih =>
    intro y hy e hs
    have py := posIn_lt hy
    have hk : posIn ns x + d < ns.length - 1 := by omega
    have hg : ns[posIn ns x + d]? = some (ns[posIn ns x + d]'(by omega)) := List.getElem?_eq_getElem _
    have hm := List.mem_of_getElem? hg
    have hp := posIn_get C.nd hg
    generalize ns[posIn ns x + d] = z at *
    have c := ih z hm (by omega) (by omega)
    obtain ⟨r, hr, he, hl, h1, h2⟩ := C.row hk
    have hR : Ro ns t (posIn ns x + d) := ⟨hk, by omega⟩
    have q1 := Cn.edge (ed := edR D.rows) hR
    have q2 := Cn.edge' (ed := edR D.rows) hR
    rw [he] at q1 q2
    rcases hl with ⟨e1, e2⟩ | ⟨e1, e2⟩
    · have : r.1 = z := (posIn_inj h1 hm).mpr (by omega)
      have : r.2.1 = y := (posIn_inj h2 hy).mpr (by omega)
      subst_vars
      exact c.trans q1
    · have : r.2.1 = z := (posIn_inj h2 hm).mpr (by omega)
      have : r.1 = y := (posIn_inj h1 hy).mpr (by omega)
      subst_vars
      exact c.trans q2
theorem ChainD.side_cn {ns : List Str} {rs : List (Str × Str × Int)} {D : SD} (C : ChainD ns rs D) {t : Nat} {x y : Str} (hx : x ∈ ns) (hy : y ∈ ns) (h : posIn ns x ≤ t ↔ posIn ns y ≤ t) : Cn (edR D.rows) (Ro ns t) x y := by
  rcases Nat.le_total (posIn ns x) (posIn ns y) with q | q
  · exact C.step_cn hx (posIn ns y - posIn ns x) y hy (by omega) h
  · exact (C.step_cn hy (posIn ns x - posIn ns y) x hx (by omega) h.symm).symm
theorem ChainD.cnIff {ns : List Str} {rs : List (Str × Str × Int)} {D : SD} (C : ChainD ns rs D) {t : Nat} {x y : Str} (hx : x ∈ ns) (hy : y ∈ ns) : Cn (edR D.rows) (Ro ns t) x y ↔ (posIn ns x ≤ t ↔ posIn ns y ≤ t) :=
  ⟨fun h => (C.cn_side hx h).2, C.side_cn hx hy⟩
theorem ChainD.nums {ns : List Str} {rs : List (Str × Str × Int)} {D : SD} (C : ChainD ns rs D) (j : Nat) : j ∈ D.nums ↔ j < rs.length := by
  unfold SD.nums
  rw [C.rows, numR_fst, List.mem_range]
theorem ChainD.wo {ns : List Str} {rs : List (Str × Str × Int)} {D : SD} (C : ChainD ns rs D) (t : Nat) : Wo (edR D.rows) (fun n => n ∈ D.nums) t = Ro ns t := by
  funext j
  refine propext ⟨fun h => ⟨?_, h.2⟩, fun h => ⟨?_, h.2⟩⟩
  · have := (C.ok.hd j).mpr h.1
    rwa [C.held, List.mem_range] at this
  · exact (C.ok.hd j).mp (by rw [C.held, List.mem_range]; exact h.1)
/-- which cross -/
theorem ChainD.cross {ns : List Str} {rs : List (Str × Str × Int)} {D : SD} (C : ChainD ns rs D) {t j : Nat} (ht : t < ns.length - 1) {r : Str × Str × Int} (hr : rs[j]? = some r) : CrP D t j ↔ ¬ (posIn ns r.1 ≤ t ↔ posIn ns r.2.1 ≤ t) ∧ ns.length - 1 ≤ j := by
  obtain ⟨r0, hr0, he0, hl0, h1, h2⟩ := C.row ht
  obtain ⟨i1, i2⟩ := C.P.inn r (List.mem_of_getElem? hr)
  have he : edR D.rows j = (r.1, r.2.1) := by rw [C.rows]; exact edR_numR hr
  unfold CrP Cross
  rw [C.wo t, he, he0]
  show j ≠ t ∧ ¬ (Cn (edR D.rows) (Ro ns t) r0.1 r.1 ↔ Cn (edR D.rows) (Ro ns t) r0.1 r.2.1) ↔ _
  rw [C.cnIff h1 i1, C.cnIff h1 i2]
  constructor
  · rintro ⟨n, h⟩
    refine ⟨by omega, Classical.byContradiction fun z => ?_⟩
    have := C.P.link j r hr (by omega)
    omega
  · rintro ⟨h, hj⟩
    exact ⟨by omega, by omega⟩
end
section
variable {P : Program} {w : World} {K : PySem.W.Frag} {mg : Str → Option Value} {base : Heap}
theorem ChainD.less_row {ns : List Str} {rs : List (Str × Str × Int)} {D : SD} (C : ChainD ns rs D) {t k : Nat} {r : Str × Str × Int} (h : rs[k]? = some r) (hk : k ≠ t) : edR (D.less t).rows k = (r.1, r.2.1) := by
  have e : rowOf (D.less t).rows k = some r := by
    refine rowOf_of (C.ok.less t).nodup ?_
    refine List.mem_filter.mpr ⟨?_, by simpa using hk⟩
    rw [C.rows]; exact numR_in h
  unfold edR
  rw [e]
theorem ChainD.heldT {ns : List Str} {rs : List (Str × Str × Int)} {D : SD} (C : ChainD ns rs D) {t : Nat} (ht : t < ns.length - 1) : t ∈ D.held := by rw [C.held, List.mem_range]; exact ht
theorem ChainD.less_cn {ns : List Str} {rs : List (Str × Str × Int)} {D : SD} (C : ChainD ns rs D) {t : Nat} {x y : Str} (h : Cn (edR D.rows) (Ro ns t) x y) : Cn (edR (D.less t).rows) (Ro ns t) x y :=
  h.congr fun k hk => by
    obtain ⟨r, hr, he, _⟩ := C.row hk.1
    rw [he, C.less_row hr hk.2]
theorem ChainD.less_cn' {ns : List Str} {rs : List (Str × Str × Int)} {D : SD} (C : ChainD ns rs D) {t : Nat} {x y : Str} (h : Cn (edR (D.less t).rows) (Ro ns t) x y) : Cn (edR D.rows) (Ro ns t) x y :=
  h.congr fun k hk => by
    obtain ⟨r, hr, he, _⟩ := C.row hk.1
    rw [he, C.less_row hr hk.2]
/-- nothing crosses: two classes -/
theorem ChainD.parted {ns : List Str} {rs : List (Str × Str × Int)} {D : SD} (C : ChainD ns rs D) {t : Nat} (ht : t < ns.length - 1) (hno : ∀ j ∈ D.nums, ¬ CrP D t j) {x y : Str} (hx : x ∈ ns) (hy : y ∈ ns) : (D.less t).lab x = (D.less t).lab y ↔ (posIn ns x ≤ t ↔ posIn ns y ≤ t) := by
  have hp := C.ok.parted (C.heldT ht) hno
  have e : (fun n => n ∈ (D.less t).held) = Ro ns t := by
    funext j
    refine propext ?_
    rw [← hp.mem_iff, List.mem_filter, C.held, List.mem_range]
    simp
  rw [(C.ok.less t).cnHeld, e]
  exact ⟨fun h => (C.cnIff hx hy).mp (C.less_cn' h), fun h => C.less_cn ((C.cnIff hx hy).mpr h)⟩
def backW (rs : List (Str × Str × Int)) (ns : List Str) (i n : Nat) : Wy := ((chainW rs ns i n).map fun p => (p.1, 0 - p.2)).reverse
theorem chainW_cons (rs : List (Str × Str × Int)) (ns : List Str) (i n : Nat) : chainW rs ns i (n + 1) = (i, sideOf rs ns i) :: chainW rs ns (i + 1) n := rfl
theorem backW_step (rs : List (Str × Str × Int)) (ns : List Str) (i n : Nat) : backW rs ns i (n + 1) = backW rs ns (i + 1) n ++ [(i, 0 - sideOf rs ns i)] := by
  unfold backW
  rw [chainW_cons, List.map_cons, List.reverse_cons]
/-- ways by the joining that holds in its place -/
def takenW (rs : List (Str × Str × Int)) (ns : List Str) (t j left right : Nat) (s : Int) (i : Nat) : Wy :=
  if i ≤ t then chainW rs ns 0 i else chainW rs ns 0 left ++ [(j, s)] ++ (if right ≤ i then chainW rs ns right (i - right) else backW rs ns i (right - i))
section
variable {ns : List Str} {rs : List (Str × Str × Int)} {D : SD} {t j : Nat} {r : Str × Str × Int}
/-- what holds behind the take -/
theorem ChainD.heldJ (C : ChainD ns rs D) (ht : t < ns.length - 1) (hr : rs[j]? = some r) (hc : CrP D t j) (hl : ∀ i ∈ D.nums, i < j → ¬ CrP D t i) (k : Nat) : k ∈ (D.less t).held ↔ Ro ns t k ∨ k = j := by
  have hp := C.ok.got (C.heldT ht) ((C.nums j).mpr (List.getElem?_eq_some_iff.mp hr).1) hc hl
  rw [← hp.mem_iff, List.mem_append, List.mem_filter, C.held, List.mem_range, List.mem_singleton]
  simp
theorem ChainD.lessLab (C : ChainD ns rs D) (ht : t < ns.length - 1) (hr : rs[j]? = some r) (hc : CrP D t j) (hl : ∀ i ∈ D.nums, i < j → ¬ CrP D t i) {x y : Str} (hx : x ∈ ns) (hy : y ∈ ns) : (D.less t).lab x = (D.less t).lab y := by
  obtain ⟨cr, jc⟩ := (C.cross ht hr).mp hc
  obtain ⟨i1, i2⟩ := C.P.inn r (List.mem_of_getElem? hr)
  have up : ∀ {x y : Str}, x ∈ ns → y ∈ ns → (posIn ns x ≤ t ↔ posIn ns y ≤ t) → Cn (edR (D.less t).rows) (fun n => n ∈ (D.less t).held) x y := fun hx hy h =>
    (C.less_cn ((C.cnIff hx hy).mpr h)).mono fun k hk => (C.heldJ ht hr hc hl k).mpr (.inl hk)
  have ej : Cn (edR (D.less t).rows) (fun n => n ∈ (D.less t).held) r.1 r.2.1 := by
    have := Cn.edge (ed := edR (D.less t).rows) (R := fun n => n ∈ (D.less t).held) (k := j) ((C.heldJ ht hr hc hl j).mpr (.inr rfl))
    rwa [C.less_row hr (by omega)] at this
  have to1 : ∀ {x : Str}, x ∈ ns → Cn (edR (D.less t).rows) (fun n => n ∈ (D.less t).held) x r.1 := fun {x} hx => by
    by_cases h : posIn ns x ≤ t ↔ posIn ns r.1 ≤ t
    · exact up hx i1 h
    · exact (up hx i2 (by omega)).trans ej.symm
  exact ((C.ok.less t).cnHeld x y).mpr ((to1 hx).trans (to1 hy).symm)
theorem ChainD.lessWay (C : ChainD ns rs D) (ht : t < ns.length - 1) (hr : rs[j]? = some r) (hc : CrP D t j) (hl : ∀ i ∈ D.nums, i < j → ¬ CrP D t i) {a b : Str} {L : List (Str × Wy)} {w : Wy} (ha : posIn ns a = 0)
    (g : Grow (D.less t).edges a L) (hw : (b, w) ∈ L) : w = takenW rs ns t j (min (posIn ns r.1) (posIn ns r.2.1)) (max (posIn ns r.1) (posIn ns r.2.1)) (if posIn ns r.1 ≤ t then 1 else -1) (posIn ns b) := by
  obtain ⟨cr, jc⟩ := (C.cross ht hr).mp hc
  generalize hL : min (posIn ns r.1) (posIn ns r.2.1) = lf
  generalize hR : max (posIn ns r.1) (posIn ns r.2.1) = rt
  generalize hS : (if posIn ns r.1 ≤ t then (1 : Int) else -1) = sd
  generalize hW : takenW rs ns t j lf rt sd = Wp
  have w0 : Wp 0 = [] := by rw [← hW]; unfold takenW; rw [if_pos (Nat.zero_le _)]; rfl
  refine (Grow.way (edgesOf_of (D.less t).rows (D.less t).held) g (W := fun n => Wp (posIn ns n)) (by show Wp (posIn ns a) = []; rw [ha, w0]) (fun k hk => ?_) (b, w) hw).1
  rcases (C.heldJ ht hr hc hl k).mp hk with ⟨hk1, hk2⟩ | rfl
  · obtain ⟨q, hq, _, hlk, h1, h2⟩ := C.row hk1
    rw [C.less_row hq hk2]
    have hs := side_at C.nd hq h1
    have fwd : ¬ (t < k ∧ k < rt) → Wp (k + 1) = Wp k ++ [(k, sideOf rs ns k)] := by
      intro hh
      rw [← hW]
      unfold takenW
      by_cases h : k + 1 ≤ t
      · rw [if_pos h, if_pos (show k ≤ t by omega), chainW_snoc, Nat.zero_add]
      · rw [if_neg h, if_neg (show ¬ k ≤ t by omega), if_pos (show rt ≤ k + 1 by omega), if_pos (show rt ≤ k by omega), List.append_assoc]
        have e : k + 1 - rt = (k - rt) + 1 := by omega
        rw [e, chainW_snoc, show rt + (k - rt) = k by omega]
        simp
    have bwd : (t < k ∧ k < rt) → Wp k = Wp (k + 1) ++ [(k, 0 - sideOf rs ns k)] := by
      rintro ⟨hh1, hh2⟩
      rw [← hW]
      unfold takenW
      rw [if_neg (show ¬ k ≤ t by omega), if_neg (show ¬ k + 1 ≤ t by omega), if_neg (show ¬ rt ≤ k by omega)]
      have e : rt - k = (rt - (k + 1)) + 1 := by omega
      rw [e, backW_step]
      by_cases z : rt ≤ k + 1
      · rw [if_pos z, show k + 1 - rt = 0 by omega, show rt - (k + 1) = 0 by omega]
        simp [backW, chainW]
      · rw [if_neg z]; simp
    by_cases z : t < k ∧ k < rt
    · have B := bwd z
      rcases hlk with ⟨e1, e2⟩ | ⟨e1, e2⟩
      · refine .inr ?_
        show Wp (posIn ns q.1) = Wp (posIn ns q.2.1) ++ _
        rw [e1, e2, B, hs, if_pos e1]; rfl
      · refine .inl ?_
        show Wp (posIn ns q.2.1) = Wp (posIn ns q.1) ++ _
        rw [e1, e2, B, hs, if_neg (by omega)]; rfl
    · have F := fwd z
      rcases hlk with ⟨e1, e2⟩ | ⟨e1, e2⟩
      · refine .inl ?_
        show Wp (posIn ns q.2.1) = Wp (posIn ns q.1) ++ _
        rw [e1, e2, F, hs, if_pos e1]
      · refine .inr ?_
        show Wp (posIn ns q.1) = Wp (posIn ns q.2.1) ++ _
        rw [e1, e2, F, hs, if_neg (by omega)]
  · rw [C.less_row hr (by omega)]
    have wl : Wp lf = chainW rs ns 0 lf := by
      rw [← hW]; unfold takenW; rw [if_pos (show lf ≤ t by omega)]
    have wr : Wp rt = chainW rs ns 0 lf ++ [(k, sd)] := by
      rw [← hW]; unfold takenW
      rw [if_neg (show ¬ rt ≤ t by omega), if_pos (Nat.le_refl rt), Nat.sub_self, chainW_zero, List.append_nil]
    by_cases z : posIn ns r.1 ≤ t
    · have e1 : lf = posIn ns r.1 := by omega
      have e2 : rt = posIn ns r.2.1 := by omega
      rw [if_pos z] at hS
      refine .inl ?_
      show Wp (posIn ns r.2.1) = Wp (posIn ns r.1) ++ _
      rw [← e1, ← e2, wl, wr, hS]
    · have e1 : lf = posIn ns r.2.1 := by omega
      have e2 : rt = posIn ns r.1 := by omega
      rw [if_neg z] at hS
      refine .inr ?_
      show Wp (posIn ns r.1) = Wp (posIn ns r.2.1) ++ _
      rw [← e1, ← e2, wl, wr, hS]
end
end
section
variable {P : Program} {w : World} {K : PySem.W.Frag} {mg : Str → Option Value} {base : Heap}
open TL PySem.NumText
/-! ### the text of the chain -/
theorem joinL_snoc (S : List Nat) : ∀ (l : List (List Nat)) (x : List Nat), l ≠ [] → joinL S (l ++ [x]) = joinL S l ++ (S ++ x)
  | [], x, h => absurd rfl h
  | [p], x, _ => by show p ++ (S ++ x) = p ++ (S ++ x); rfl
  | p :: q :: r, x, _ => by
    show p ++ (S ++ joinL S ((q :: r) ++ [x])) = (p ++ (S ++ joinL S (q :: r))) ++ (S ++ x)
    rw [joinL_snoc S (q :: r) x (by simp)]
    simp
theorem joinL_len (S : List Nat) : ∀ l : List (List Nat), (joinL S l).length ≤ (l.map List.length).sum + l.length * S.length
  | [] => by simp [joinL]
  | [p] => by simp [joinL]
  | p :: q :: r => by
    have := joinL_len S (q :: r)
    show (p ++ (S ++ joinL S (q :: r))).length ≤ _
    rw [List.length_append, List.length_append, List.map_cons, List.sum_cons, List.length_cons, Nat.add_mul, Nat.one_mul]
    omega
theorem tl_nl : tl ("\n" : Str) = [10] := by decide +kernel
theorem join_snoc {l : List Str} {x : Str} (h : l ≠ []) : Txt.join ("\n" : Str) (l ++ [x]) = (Txt.join ("\n" : Str) l ++ ("\n" : Str)) ++ x := by
  refine ext_tl ?_
  rw [join_eq, join_eq, tl_join, tl_append, tl_append, tl_join, List.map_append]
  show joinL _ (l.map tl ++ [tl x]) = _
  rw [joinL_snoc _ _ _ (by simpa using h)]
  simp
theorem join_len (l : List Str) : (Txt.join ("\n" : Str) l).length ≤ (l.map (·.length)).sum + l.length := by
  rw [join_eq, len_tl, tl_join, tl_nl]
  have := joinL_len [10] (l.map tl)
  rw [List.map_map, List.length_map] at this
  have e : (List.length ∘ tl) = fun s : Str => s.length := by funext s; exact (len_tl s).symm
  rw [e] at this
  simpa using this
/-- the text so far -/
def txtOf (t : Int) (ns : List Str) (rs : List (Str × Str × Int)) : Str := Txt.join ("\n" : Str) (turnRow t :: (ns.map nameRow ++ rs.map joinRow))
theorem txt_snoc (t : Int) (ns : List Str) (rs : List (Str × Str × Int)) (r : Str × Str × Int) : txtOf t ns (rs ++ [r]) = (((((txtOf t ns rs ++ ("\njoin " : Str)) ++ r.1) ++ (" " : Str)) ++ r.2.1) ++ (" " : Str)) ++ numS r.2.2 := by
  unfold txtOf
  rw [List.map_append, ← List.append_assoc, ← List.cons_append, List.map_cons, List.map_nil, join_snoc (by simp)]
  refine ext_tl ?_
  unfold joinRow
  simp only [tl_append]
  rw [show tl ("\njoin " : Str) = tl ("\n" : Str) ++ tl ("join " : Str) by decide +kernel]
  simp
theorem txt_way (t : Int) (ns : List Str) (rs : List (Str × Str × Int)) (a b : Str) : (((txtOf t ns rs ++ ("\nway " : Str)) ++ a) ++ (" " : Str)) ++ b = Txt.join ("\n" : Str) (rowsOf t ns rs a b) := by
  unfold txtOf rowsOf
  have e : (turnRow t :: (ns.map nameRow ++ (rs.map joinRow ++ [wayRow a b]))) = (turnRow t :: (ns.map nameRow ++ rs.map joinRow)) ++ [wayRow a b] := by simp
  rw [e, join_snoc (by simp)]
  refine ext_tl ?_
  unfold wayRow
  simp only [tl_append]
  rw [show tl ("\nway " : Str) = tl ("\n" : Str) ++ tl ("way " : Str) by decide +kernel]
  simp
theorem rows_free {t : Int} {ns : List Str} {rs : List (Str × Str × Int)} {a b : Str} (h : TxtOk t ns rs a b) : ∀ p ∈ rowsOf t ns rs a b, 10 ∉ tl p := by
  have n1 : ∀ z, IsNm z → 10 ∉ tl z := fun z hz hc => (nm_free hz 10 hc).2 rfl
  have n2 : ∀ i : Int, 10 ∉ tl (numS i) := fun i hc => (num_free i 10 hc).2 rfl
  have w1 : 10 ∉ tl ("turn " : Str) := by decide +kernel
  have w2 : 10 ∉ tl ("name " : Str) := by decide +kernel
  have w3 : 10 ∉ tl ("join " : Str) := by decide +kernel
  have w4 : 10 ∉ tl ("way " : Str) := by decide +kernel
  have w5 : 10 ∉ tl (" " : Str) := by decide +kernel
  intro p hp
  unfold rowsOf at hp
  rcases List.mem_cons.mp hp with rfl | hp
  · unfold turnRow
    rw [tl_append, List.mem_append]
    exact fun z => z.elim w1 (n2 t)
  · rcases List.mem_append.mp hp with hp | hp
    · obtain ⟨n, hn, rfl⟩ := List.mem_map.mp hp
      unfold nameRow
      rw [tl_append, List.mem_append]
      exact fun z => z.elim w2 (n1 n (h.nm n hn))
    · rcases List.mem_append.mp hp with hp | hp
      · obtain ⟨r, hr, rfl⟩ := List.mem_map.mp hp
        have i := h.inn r hr
        unfold joinRow
        simp only [tl_append, List.mem_append, not_or]
        exact ⟨⟨⟨⟨⟨w3, n1 _ (h.nm _ i.1)⟩, w5⟩, n1 _ (h.nm _ i.2)⟩, w5⟩, n2 _⟩
      · have : p = wayRow a b := by simpa using hp
        subst this
        unfold wayRow
        simp only [tl_append, List.mem_append, not_or]
        exact ⟨⟨⟨w4, n1 _ (h.nm _ h.ain)⟩, w5⟩, n1 _ (h.nm _ h.bin)⟩
theorem split_rows {t : Int} {ns : List Str} {rs : List (Str × Str × Int)} {a b : Str} (h : TxtOk t ns rs a b) : Txt.split (Txt.join ("\n" : Str) (rowsOf t ns rs a b)) "\n" = rowsOf t ns rs a b :=
  split_join (s := 10) (S := []) tl_nl (by decide +kernel) (by simp [rowsOf]) (rows_free h)
theorem chainW_take {rs : List (Str × Str × Int)} {ns : List Str} {m : Nat} : ∀ {a n : Nat}, a + n ≤ m → chainW (rs.take m) ns a n = chainW rs ns a n
  | a, 0, _ => rfl
  | a, n + 1, h => by
    rw [chainW_snoc, chainW_snoc, chainW_take (by omega)]
    have : sideOf (rs.take m) ns (a + n) = sideOf rs ns (a + n) := by
      unfold sideOf
      rw [List.getElem?_take_of_lt (by omega)]
    rw [this]
theorem txt_len {t : Int} {ns : List Str} {rs : List (Str × Str × Int)} (ht : t.natAbs ≤ 1000000000000) (hn : ∀ n ∈ ns, IsNm n) (hr : ∀ r ∈ rs, IsNm r.1 ∧ IsNm r.2.1 ∧ r.2.2.natAbs ≤ 1000000000000) : (txtOf t ns rs).length ≤ 50 * (1 + ns.length + rs.length) := by
  have h := join_len (turnRow t :: (ns.map nameRow ++ rs.map joinRow))
  have hs := sum_le (l := turnRow t :: (ns.map nameRow ++ rs.map joinRow)) (n := 49) fun x hx => by
    rcases List.mem_cons.mp hx with rfl | hx
    · unfold turnRow
      rw [str_len_app, show ("turn " : Str).length = 5 by decide +kernel]
      have := numS_len ht; omega
    · rcases List.mem_append.mp hx with hx | hx
      · obtain ⟨n, h1, rfl⟩ := List.mem_map.mp hx
        unfold nameRow
        rw [str_len_app, show ("name " : Str).length = 5 by decide +kernel]
        have := nm_len (hn n h1); omega
      · obtain ⟨r, h1, rfl⟩ := List.mem_map.mp hx
        obtain ⟨h2, h3, h4⟩ := hr r h1
        unfold joinRow
        rw [str_len_app, str_len_app, str_len_app, str_len_app, str_len_app, show ("join " : Str).length = 5 by decide +kernel, show (" " : Str).length = 1 by decide +kernel]
        have := nm_len h2; have := nm_len h3; have := numS_len h4; omega
  unfold txtOf
  have hl : (turnRow t :: (ns.map nameRow ++ rs.map joinRow)).length = 1 + ns.length + rs.length := by simp; omega
  rw [hl] at h hs
  omega
theorem Tups.take {β : Type} {H : Hp} {enc : β → List V} {vs : List V} {xs : List β} (n : Nat) (h : Tups H enc vs xs) : Tups H enc (vs.take n) (xs.take n) := by
  refine ⟨by rw [List.length_take, List.length_take, h.1], fun i v hv => ?_⟩
  rw [List.getElem?_take] at hv
  split at hv
  · obtain ⟨x, t, h1, h2⟩ := h.2 i v hv
    exact ⟨x, t, by rw [List.getElem?_take]; split <;> first | exact h1 | omega, h2⟩
  · cases hv
theorem ChainP.take {ns : List Str} {rs : List (Str × Str × Int)} (C : ChainP ns rs) (n : Nat) : ChainP ns (rs.take n) :=
  ⟨fun r hr => C.inn r (List.mem_of_mem_take hr), fun k r hr => by
    rw [List.getElem?_take] at hr
    split at hr
    · exact C.link k r hr
    · cases hr⟩
end
section
variable {P : Program} {w : World} {K : PySem.W.Frag} {mg : Str → Option Value} {base : Heap}
section
variable {K : PySem.W.Frag} {σ : L2.St} {H : Hp} {Q : VK}
theorem atI_end {l : List V} {v : V} (h : l[l.length - 1]? = some v) : atI l (-1) = some v := by
  rcases nil_or_snoc l with rfl | ⟨l', x, rfl⟩
  · simp at h
  · have : x = v := by simpa using h
    subst this
    exact atI_last _ _
theorem numR_at {rs : List (Str × Str × Int)} {i : Nat} {r : Str × Str × Int} (h : rs[i]? = some r) : (numR rs)[i]? = some (i, r) := by
  unfold numR
  rw [List.getElem?_map, List.getElem?_zipIdx, h]
  simp
theorem numR_len (rs : List (Str × Str × Int)) : (numR rs).length = rs.length := by unfold numR; simp
theorem ite_side {p : Prop} [Decidable p] (k : Q (.int (if p then 1 else -1)) H) : if decide p = true then tC (V.int 1) σ H Q else tUn (rU fun i => V.int (-i)) (tC (V.int 1)) σ H Q := by
  by_cases h : p
  · rw [if_pos h] at k; rw [if_pos (decide_eq_true h)]; exact k
  · rw [if_neg h] at k; rw [if_neg (by simp [h])]; exact ⟨1, rfl, k⟩
theorem int_min (a b : Nat) : (if ((b : Nat) : Int) < ((a : Nat) : Int) then ((b : Nat) : Int) else ((a : Nat) : Int)) = ((min a b : Nat) : Int) := by split <;> omega
theorem int_max (a b : Nat) : (if ((b : Nat) : Int) > ((a : Nat) : Int) then ((b : Nat) : Int) else ((a : Nat) : Int)) = ((max a b : Nat) : Int) := by split <;> omega
theorem first_filter {X : Nat → Bool} : ∀ {n a j : Nat}, a ≤ j → j < a + n → X j = true → (∀ i, a ≤ i → i < j → X i = false) → ∃ rest, (List.range' a n).filter X = j :: rest
  | 0, a, j, h1, h2, _, _ => by omega
  | n + 1, a, j, h1, h2, h3, h4 => by
    rw [List.range'_succ]
    by_cases e : a = j
    · subst e; exact ⟨_, List.filter_cons_of_pos h3⟩
    · rw [List.filter_cons_of_neg (by rw [h4 a (Nat.le_refl _) (by omega)]; simp)]
      exact first_filter (by omega) (by omega) h3 fun i hi1 hi2 => h4 i (by omega) hi2
theorem dpAll_ways : ∀ {vs : List V} {w : Wy}, Tups H encP vs w → DpAll K H vs (w.map fun p => .tuple ((encP p).map pdV)) := fun t => dpAll_tups t fun p _ v hv => by
  simp only [encP, List.mem_cons, List.not_mem_nil, or_false] at hv
  rcases hv with rfl | rfl <;> rfl
theorem dp_way {a : Addr} {w : Wy} (h : WayAt H a w) : Dp K H (.ref a) (.tuple (w.map fun p => .tuple ((encP p).map pdV))) := by
  obtain ⟨vs, h1, h2⟩ := h
  exact .tup (SqT.of h1) (dpAll_ways h2)
theorem ly_way (w : Wy) : Ly 2 (.tuple (w.map fun p => .tuple ((encP p).map pdV))) := Ly.tup fun d hd => by
  obtain ⟨p, _, rfl⟩ := List.mem_map.mp hd
  exact ly_tup fun v hv => by
    simp only [encP, List.mem_cons, List.not_mem_nil, or_false] at hv
    rcases hv with rfl | rfl <;> rfl
theorem r_neWay {a b : Addr} {w : Wy} (h1 : WayAt H a w) (h2 : WayAt H b w) (k : Q (.bl false) H) : rNeD K (.ref a) (.ref b) H Q := r_neSame (dp_way h1) (dp_way h2) (ly_way w) (by decide) k
theorem r_slTany {a : Addr} {xs : List V} {lo hi : Option Int} (h : H a = some (.tup xs)) (k : ∀ p H', (he : Same H H') → (hp : H' p = some (.tup (cutV xs lo hi))) → Q (.ref p) H') : rSlA K (.ref a) lo hi H Q := by
  refine ⟨a, xs, rfl, SqT.of h, fun z => k a H (Same.refl H) ?_, fun _ p hn => k p _ (same_new hn) upd_same⟩
  unfold cutV
  rw [z.1, z.2, List.drop_zero, Nat.sub_zero, List.take_length]; exact h
def rTRev (K : PySem.W.Frag) (Q : VK) : VK := fun v H1 => ∃ (a : Addr) (xs : List V), v = .ref a ∧ SqL K H1 a xs ∧ ∀ q, H1 q = none → Q (.ref q) (upd H1 q (.tup xs.reverse))
theorem w_trev {te : TE} (k : te σ H (rTRev K Q)) : RT.tTupRev K te σ H Q := k
theorem j_trev {a : Addr} {xs : List V} (h : H a = some (.lst xs)) (k : ∀ p H', (hn : H p = none) → (he : Same H H') → (hp : H' p = some (.tup xs.reverse)) → Q (.ref p) H') : rTRev K Q (.ref a) H :=
  ⟨a, xs, rfl, SqL.of h, fun p hp => k p _ hp (same_new hp) upd_same⟩
theorem Tups.rev {β : Type} {enc : β → List V} {vs : List V} {xs : List β} (h : Tups H enc vs xs) : Tups H enc vs.reverse xs.reverse := by
  refine ⟨by rw [List.length_reverse, List.length_reverse, h.1], fun i v hv => ?_⟩
  have hi := (List.getElem?_eq_some_iff.mp hv).1
  rw [List.length_reverse] at hi
  rw [List.getElem?_reverse hi] at hv
  obtain ⟨x, t, h1, h2⟩ := h.2 _ v hv
  refine ⟨x, t, ?_, h2⟩
  rw [List.getElem?_reverse (by rw [← h.1]; exact hi), ← h.1]; exact h1
theorem Tups.app {β : Type} {enc : β → List V} {vs us : List V} {xs ys : List β} (h : Tups H enc vs xs) (h' : Tups H enc us ys) : Tups H enc (vs ++ us) (xs ++ ys) := by
  refine ⟨by rw [List.length_append, List.length_append, h.1, h'.1], fun i v hv => ?_⟩
  rcases Nat.lt_or_ge i vs.length with hi | hi
  · rw [List.getElem?_append_left hi] at hv
    obtain ⟨x, t, h1, h2⟩ := h.2 i v hv
    exact ⟨x, t, by rw [List.getElem?_append_left (h.1 ▸ hi)]; exact h1, h2⟩
  · rw [List.getElem?_append_right hi] at hv
    obtain ⟨x, t, h1, h2⟩ := h'.2 _ v hv
    exact ⟨x, t, by rw [List.getElem?_append_right (h.1 ▸ hi), ← h.1]; exact h1, h2⟩
end
def sp_taken (K : PySem.W.Frag) : Sp := fun vs H Q _ => ∃ (x pl rl nl : Addr) (ws : List V) (rs : List (Str × Str × Int)) (ns : List Str) (t dr : Nat) (turn : Int) (Ss : List SD) (D : SD) (G : Hp), vs = [.ref x, .ref rl, .ref nl, .int (t : Nat), .int (dr : Nat)] ∧ MeshAt K G H x pl turn (Ss ++ [D]) ∧
  G rl = some (.lst ws) ∧ Tups G encR ws rs ∧ G nl = some (.lst (ns.map V.str)) ∧ ChainD ns rs D ∧ D.names.Perm ns ∧ rs.length = 140 ∧ ns.length ≤ 41 ∧ t < ns.length - 1 ∧ dr < ns.length ∧ (∀ n ∈ ns, IsNm n) ∧ Ss.length < 390 ∧ ∀ H', Q (.bl true) H'
/-- which of the rows cross -/
def crX (ns : List Str) (rs : List (Str × Str × Int)) (t k : Nat) : Bool := match rs[k]? with
  | some r => decide (¬ (posIn ns r.1 ≤ t ↔ posIn ns r.2.1 ≤ t))
  | none => false
theorem mem_take_pos {ns : List Str} (nd : ns.Nodup) {x : Str} {n : Nat} : x ∈ ns.take n ↔ x ∈ ns ∧ posIn ns x < n := by
  constructor
  · intro h
    obtain ⟨j, hj, e⟩ := List.mem_iff_getElem.mp h
    rw [List.length_take] at hj
    rw [List.getElem_take] at e
    have h2 : ns[j]? = some x := by rw [← e]; exact List.getElem?_eq_getElem (by omega)
    rw [posIn_get nd h2]
    exact ⟨List.mem_of_getElem? h2, by omega⟩
  · rintro ⟨h1, h2⟩
    have := posIn_at h1
    refine List.mem_of_getElem? (i := posIn ns x) ?_
    rw [List.getElem?_take_of_lt h2]; exact this
theorem mem_drop_pos {ns : List Str} (nd : ns.Nodup) {x : Str} {n : Nat} : x ∈ ns.drop n ↔ x ∈ ns ∧ n ≤ posIn ns x := by
  constructor
  · intro h
    obtain ⟨j, hj, e⟩ := List.mem_iff_getElem.mp h
    rw [List.getElem_drop] at e
    rw [List.length_drop] at hj
    have h2 : ns[n + j]? = some x := by rw [← e]; exact List.getElem?_eq_getElem (by omega)
    rw [posIn_get nd h2]
    exact ⟨List.mem_of_getElem? h2, by omega⟩
  · rintro ⟨h1, h2⟩
    have := posIn_at h1
    refine List.mem_of_getElem? (i := posIn ns x - n) ?_
    rw [List.getElem?_drop, show n + (posIn ns x - n) = posIn ns x by omega]; exact this
section
variable {K : PySem.W.Frag} {H : Hp} {Q : VK}
theorem dp_parted {q c1 c2 : Addr} {l1 l2 : List Str} (hq : H q = some (.tup [.str "parted", .ref c1, .ref c2])) (h1 : H c1 = some (.lst (l1.map V.str))) (h2 : H c2 = some (.lst (l2.map V.str))) (f1 : ∀ n ∈ l1, IsNm n) (f2 : ∀ n ∈ l2, IsNm n) :
    Dp K H (.ref q) (.tuple [.str "parted", .list ((l1.map V.str).map pdV), .list ((l2.map V.str).map pdV)]) :=
  .tup (SqT.of hq) (.cons (dp_fl (v := .str "parted") (by decide +kernel)) (.cons (dp_lst h1 (fl_strs' f1)) (.cons (dp_lst h2 (fl_strs' f2)) .nil)))
theorem ly_parted {l1 l2 : List Str} (f1 : ∀ n ∈ l1, IsNm n) (f2 : ∀ n ∈ l2, IsNm n) : Ly 2 (.tuple [.str "parted", .list ((l1.map V.str).map pdV), .list ((l2.map V.str).map pdV)]) := Ly.tup fun d hd => by
  simp only [List.mem_cons, List.not_mem_nil, or_false] at hd
  rcases hd with rfl | rfl | rfl
  · exact (Ly.pd (v := .str "parted") (by decide +kernel)).mono (by decide)
  · exact ly_lst (fl_strs' f1)
  · exact ly_lst (fl_strs' f2)
end
abbrev N_law_taken_right : List Str := ["_law_mesh", "_law_rows", "_law_names_here", "_law_at", "_law_dropped", "_law_many", "_law_place", "_law_k", "_law_name", "_law_across", "_law_told", "_law_one", "_law_other", "_law_due", "_law_step", "_law_side", "_law_left", "_law_right", "_law_back", "_law_way", "_law_gone", "_law_row", "_law_stay"]
theorem sc_law_taken_right : FnScope N_law_taken_right ["_law_mesh", "_law_rows", "_law_names_here", "_law_at", "_law_dropped"] (defScope s_law_taken_right) := ⟨rfl, rfl, rfl, by decide +kernel, rfl, by decide +kernel, by decide +kernel⟩
theorem ok_law_taken_right (T : Txt w K mg) : OkF P w K mg base 6 (gA K "_law_taken_right") ["_law_mesh", "_law_rows", "_law_names_here", "_law_at", "_law_dropped"] (sp_taken K) := by
  obtain ⟨fd_Mesh_take, c_Mesh_take⟩ := ok_Mesh_take (P := P) (base := base) T
  obtain ⟨fd_Mesh_way, c_Mesh_way⟩ := ok_Mesh_way (P := P) (base := base) T
  obtain ⟨fd_law_chain_way, c_law_chain_way⟩ := ok_law_chain_way (P := P) (base := base) T
  obtain ⟨fd_Mesh_drop_name, c_Mesh_drop_name⟩ := ok_Mesh_drop_name (P := P) (base := base) T
  obtain ⟨fd_Mesh_holding, c_Mesh_holding⟩ := ok_Mesh_holding (P := P) (base := base) T
  obtain ⟨fd_law_holding, c_law_holding⟩ := ok_law_holding (P := P) (base := base) T
  obtain ⟨fd_Mesh_standing, c_Mesh_standing⟩ := ok_Mesh_standing (P := P) (base := base) T
  have cl_Mesh := Tc_Mesh T
  refine okF (Td_law_taken_right T) sc_law_taken_right (fun _ _ _ _ _ _ us hl => match us, hl with | [_, _, _, _, _], _ => rfl) (fun vs H Q E h => ?_) (fun cdv A outer s H vs Q E hr h => have hu := hu_of hr; ⟨_, (pss_cons (ps_set (i := 5) sc_law_taken_right.nd rfl (by first | exact Or.inl rfl | exact Or.inr rfl) (pe_callB (call_lenJ K) (by rfl) (Tf_len T) (by decide +kernel) (pa_cons (pv 2) pa_nil)))
      (pss_cons (ps_set (i := 6) sc_law_taken_right.nd rfl (by first | exact Or.inl rfl | exact Or.inr rfl) (pe_callTy (call_dictJ K rfl) (by rfl) (Tf_dict T) (by decide +kernel) (pa_cons (pe_lc (own := [("_law_k", 7), ("_law_name", 8)]) (tt := tYes) rfl sc_law_taken_right.nd (pi_enum (by rfl) (Tf_enumerate T) (pa_cons (pv 2) pa_nil)) (blkOk_by (N := N_law_taken_right) (sc := defScope s_law_taken_right) (by decide +kernel)) (fun _ _ _ _ _ => (pg_tupK K (n := 2) rfl (pgs_cons (pg_name (i := 7) sc_law_taken_right.nd rfl (by first | exact Or.inl rfl | exact Or.inr rfl)) (pgs_cons (pg_name (i := 8) sc_law_taken_right.nd rfl (by first | exact Or.inl rfl | exact Or.inr rfl)) pgs_nil)))) (fun _ _ _ _ _ => pts_nil) (fun _ _ _ _ _ => (pe_tup (pa_cons (pv 8) (pa_cons (pv 7) pa_nil))))) pa_nil)))
      (pss_cons (ps_set (i := 9) sc_law_taken_right.nd rfl (by first | exact Or.inl rfl | exact Or.inr rfl) (pe_lst pa_nil))
      (pss_cons (ps_for PassesOwn.never rfl (pi_range2 rfl (Tf_range T) (pa_cons (pe_op op_sub (pv 5) pe_int) (pa_cons pe_int pa_nil))) (pg_name (i := 7) sc_law_taken_right.nd rfl (by first | exact Or.inl rfl | exact Or.inr rfl))
      (pss_one (ps_if (pt_cmpR op_ne (pe_cmpR op_gt (pe_dget hu (pv 6) (pe_ix (ix_tupK K) (pe_ix (ix_listK K) (pv 1) (pv 7) (fun _ _ => rfl)) pe_int (fun _ _ => rfl)) (fun _ _ => rfl)) (pv 3) (nomark _)) (pe_cmpR op_gt (pe_dget hu (pv 6) (pe_ix (ix_tupK K) (pe_ix (ix_listK K) (pv 1) (pv 7) (fun _ _ => rfl)) pe_int (fun _ _ => rfl)) (fun _ _ => rfl)) (pv 3) (nomark _)) (nomark _)) (pss_one (ps_expr (pe_bm PySem.F.plainAttrs_list PySem.F.slot_list_append PySem.F.type_list_append mt_append (pv 9) (pa_cons (pv 7) pa_nil)))) pss_nil)))
      (pss_cons (ps_set (i := 10) sc_law_taken_right.nd rfl (by first | exact Or.inl rfl | exact Or.inr rfl) (pe_meth (pv 0) (Tc_Mesh T) (Tm_Mesh_take T) c_Mesh_take.1 (hr.mono (by decide)) c_Mesh_take.2.1 .nil pass0 (pa_cons (pv 3) pa_nil)))
      (pss_cons (ps_if (pt_cmpR (op_eqDK K hr.units) (pv 9) (pe_lst pa_nil) (nomark _)) (pss_cons (ps_par (i := 11) (j := 12) (by rfl) sc_law_taken_right.nd rfl rfl (by decide) rfl rfl (pa_cons (pe_callB cr_sortedS (by rfl) (Tf_sorted T) (by decide +kernel) (pa_cons (pe_slice (sl_listK K) (pv 2) po_none (po_some (pe_op op_add (pv 3) pe_int))) pa_nil)) (pa_cons (pe_callB cr_sortedS (by rfl) (Tf_sorted T) (by decide +kernel) (pa_cons (pe_slice (sl_listK K) (pv 2) (po_some (pe_op op_add (pv 3) pe_int)) po_none) pa_nil)) pa_nil)) (by rfl))
      (pss_cons (ps_set (i := 13) sc_law_taken_right.nd rfl (by first | exact Or.inl rfl | exact Or.inr rfl) (pe_ifExp (pt_cmpR op_le (pe_dget hu (pv 6) (pe_ix (ix_tupK K) (pe_ix (ix_listK K) (pv 1) (pv 3) (fun _ _ => rfl)) pe_int (fun _ _ => rfl)) (fun _ _ => rfl)) (pv 3) (nomark _)) (pe_tup (pa_cons (pv 11) (pa_cons (pv 12) pa_nil))) (pe_tup (pa_cons (pv 12) (pa_cons (pv 11) pa_nil)))))
      (pss_one (ps_if (PW.pt (pw_or (pt_cmpR (op_neDK K hr.units) (pv 10) (pe_op (op_catK K) (pe_tup (pa_cons pe_str pa_nil)) (pv 13)) (nomark _)) (pw_or1 (pt_cmp (pc_notN (pe_meth (pv 0) (Tc_Mesh T) (Tm_Mesh_way T) c_Mesh_way.1 (hr.mono (by decide)) c_Mesh_way.2.1 .nil pass0 (pa_cons (pe_ix (ix_listK K) (pv 2) pe_int (fun _ _ => rfl)) (pa_cons (pe_ix (ix_listK K) (pv 2) (pe_un un_neg pe_int) (fun _ _ => rfl)) pa_nil)))))))) (pss_one (ps_ret pe_bl)) pss_nil)))) (pss_cons (ps_asg (pe_ix (ix_listK K) (pv 1) (pe_ix (ix_listK K) (pv 9) pe_int (fun _ _ => rfl)) (fun _ _ => rfl)) (pg_tupK K (n := 3) rfl (pgs_cons (pg_name (i := 11) sc_law_taken_right.nd rfl (by first | exact Or.inl rfl | exact Or.inr rfl)) (pgs_cons (pg_name (i := 12) sc_law_taken_right.nd rfl (by first | exact Or.inl rfl | exact Or.inr rfl)) (pgs_cons (pg_name (i := 14) sc_law_taken_right.nd rfl (by first | exact Or.inl rfl | exact Or.inr rfl)) pgs_nil)))))
      (pss_cons (ps_set (i := 15) sc_law_taken_right.nd rfl (by first | exact Or.inl rfl | exact Or.inr rfl) (pe_ifExp (pt_cmpR op_le (pe_dget hu (pv 6) (pv 11) (fun _ _ => rfl)) (pv 3) (nomark _)) pe_int (pe_un un_neg pe_int)))
      (pss_cons (ps_par (i := 16) (j := 17) (by rfl) sc_law_taken_right.nd rfl rfl (by decide) rfl rfl (pa_cons (pe_callB (call_minJ rfl) (by rfl) (Tf_min T) (by decide +kernel) (pa_cons (pe_dget hu (pv 6) (pv 11) (fun _ _ => rfl)) (pa_cons (pe_dget hu (pv 6) (pv 12) (fun _ _ => rfl)) pa_nil))) (pa_cons (pe_callB (call_maxJ rfl) (by rfl) (Tf_max T) (by decide +kernel) (pa_cons (pe_dget hu (pv 6) (pv 11) (fun _ _ => rfl)) (pa_cons (pe_dget hu (pv 6) (pv 12) (fun _ _ => rfl)) pa_nil))) pa_nil)) (by rfl))
      (pss_cons (ps_set (i := 13) sc_law_taken_right.nd rfl (by first | exact Or.inl rfl | exact Or.inr rfl) (pe_op (op_catK K) (pe_call c_law_chain_way.1 (hr.mono (by decide)) rfl (Tg_law_chain_way T) c_law_chain_way.2.2 c_law_chain_way.2.1 .nil pass0 (pa_cons (pv 1) (pa_cons (pv 2) (pa_cons pe_int (pa_cons (pv 16) pa_nil))))) (pe_tup (pa_cons (pe_tup (pa_cons (pe_ix (ix_listK K) (pv 9) pe_int (fun _ _ => rfl)) (pa_cons (pv 15) pa_nil))) pa_nil))))
      (pss_cons (ps_setLc (i := 18) (own := [("_law_k", 7), ("_law_way", 19)]) (tt := tYes) rfl sc_law_taken_right.nd rfl rfl (sw_true rfl rfl rfl (by decide +kernel)) (pi_tup (pe_call c_law_chain_way.1 (hr.mono (by decide)) rfl (Tg_law_chain_way T) c_law_chain_way.2.2 c_law_chain_way.2.1 .nil pass0 (pa_cons (pv 1) (pa_cons (pv 2) (pa_cons (pe_op op_add (pv 3) pe_int) (pa_cons (pv 17) pa_nil)))))) (blkOk_by (N := N_law_taken_right) (sc := defScope s_law_taken_right) (by decide +kernel)) (fun _ _ _ _ _ => (pg_tupK K (n := 2) rfl (pgs_cons (pg_name (i := 7) sc_law_taken_right.nd rfl (by first | exact Or.inl rfl | exact Or.inr rfl)) (pgs_cons (pg_name (i := 19) sc_law_taken_right.nd rfl (by first | exact Or.inl rfl | exact Or.inr rfl)) pgs_nil)))) (fun _ _ _ _ _ => pts_nil) (fun _ _ _ _ _ => (pe_tup (pa_cons (pv 7) (pa_cons (pe_op op_sub pe_int (pv 19)) pa_nil)))))
      (pss_cons (ps_if (pt_cmpR (op_neDK K hr.units) (pv 10) (pe_tup (pa_cons pe_str (pa_cons (pe_ix (ix_listK K) (pv 9) pe_int (fun _ _ => rfl)) pa_nil))) (nomark _)) (pss_one (ps_ret pe_bl)) pss_nil)
      (pss_cons (ps_if (pt_cmpR (op_neDK K hr.units) (pe_meth (pv 0) (Tc_Mesh T) (Tm_Mesh_way T) c_Mesh_way.1 (hr.mono (by decide)) c_Mesh_way.2.1 .nil pass0 (pa_cons (pe_ix (ix_listK K) (pv 2) pe_int (fun _ _ => rfl)) (pa_cons (pe_ix (ix_listK K) (pv 2) (pe_un un_neg pe_int) (fun _ _ => rfl)) pa_nil))) (pe_op (op_catK K) (pv 13) (pe_call c_law_chain_way.1 (hr.mono (by decide)) rfl (Tg_law_chain_way T) c_law_chain_way.2.2 c_law_chain_way.2.1 .nil pass0 (pa_cons (pv 1) (pa_cons (pv 2) (pa_cons (pv 17) (pa_cons (pe_op op_sub (pv 5) pe_int) pa_nil)))))) (nomark _)) (pss_one (ps_ret pe_bl)) pss_nil)
      (pss_one (ps_if (pt_cmpR (op_neDK K hr.units) (pe_meth (pv 0) (Tc_Mesh T) (Tm_Mesh_way T) c_Mesh_way.1 (hr.mono (by decide)) c_Mesh_way.2.1 .nil pass0 (pa_cons (pe_ix (ix_listK K) (pv 2) pe_int (fun _ _ => rfl)) (pa_cons (pe_ix (ix_listK K) (pv 2) (pe_op op_add (pv 3) pe_int) (fun _ _ => rfl)) pa_nil))) (pe_op (op_catK K) (pe_slice (sl_tupK K) (pv 13) po_none (po_some (pe_op op_add (pv 16) pe_int))) (RT.pe_tupRev rfl (by rfl) (Tf_tuple T) (by rfl) (Tf_reversed T) (pv 18))) (nomark _)) (pss_one (ps_ret pe_bl)) pss_nil))))))))))
      (pss_cons (ps_set (i := 20) sc_law_taken_right.nd rfl (by first | exact Or.inl rfl | exact Or.inr rfl) (pe_lc (own := [("_law_k", 7), ("_law_row", 21)]) rfl sc_law_taken_right.nd (pi_enum (by rfl) (Tf_enumerate T) (pa_cons (pv 1) pa_nil)) (blkOk_by (N := N_law_taken_right) (sc := defScope s_law_taken_right) (by decide +kernel)) (fun _ _ _ _ _ => (pg_tupK K (n := 2) rfl (pgs_cons (pg_name (i := 7) sc_law_taken_right.nd rfl (by first | exact Or.inl rfl | exact Or.inr rfl)) (pgs_cons (pg_name (i := 21) sc_law_taken_right.nd rfl (by first | exact Or.inl rfl | exact Or.inr rfl)) pgs_nil)))) (fun _ _ _ _ _ => (pts_one (PW.pt (pw_and (pt_cmpR op_ne (pv 7) (pv 3) (nomark _)) (pw_and1 (pt_cmpR (op_inK K) (pe_ix (ix_listK K) (pv 2) (pv 4) (fun _ _ => rfl)) (pe_slice (sl_tupK K) (pv 21) po_none (po_some pe_int)) (by rfl))))))) (fun _ _ _ _ _ => (pv 7))))
      (pss_cons (ps_if (pt_cmpR (op_neDK K hr.units) (pe_meth (pv 0) (Tc_Mesh T) (Tm_Mesh_drop_name T) c_Mesh_drop_name.1 (hr.mono (by decide)) c_Mesh_drop_name.2.1 .nil pass0 (pa_cons (pe_ix (ix_listK K) (pv 2) (pv 4) (fun _ _ => rfl)) pa_nil)) (pv 20) (nomark _)) (pss_one (ps_ret pe_bl)) pss_nil)
      (pss_cons (ps_setLc (i := 22) (own := [("_law_k", 7), ("_law_row", 21)]) rfl sc_law_taken_right.nd rfl rfl (sw_true rfl rfl rfl (by decide +kernel)) (pi_enum (by rfl) (Tf_enumerate T) (pa_cons (pv 1) pa_nil)) (blkOk_by (N := N_law_taken_right) (sc := defScope s_law_taken_right) (by decide +kernel)) (fun _ _ _ _ _ => (pg_tupK K (n := 2) rfl (pgs_cons (pg_name (i := 7) sc_law_taken_right.nd rfl (by first | exact Or.inl rfl | exact Or.inr rfl)) (pgs_cons (pg_name (i := 21) sc_law_taken_right.nd rfl (by first | exact Or.inl rfl | exact Or.inr rfl)) pgs_nil)))) (fun _ _ _ _ _ => (pts_one (PW.pt (pw_and (pt_cmpR op_ne (pv 7) (pv 3) (nomark _)) (pw_and1 (pt_cmpR (op_notInK K) (pv 7) (pv 20) (by rfl))))))) (fun _ _ _ _ _ => (pe_op (op_catK K) (pe_tup (pa_cons (pv 7) pa_nil)) (pv 21))))
      (pss_cons (ps_setLc (i := 16) (own := [("_law_name", 8)]) rfl sc_law_taken_right.nd rfl rfl (sw_true rfl rfl rfl (by decide +kernel)) (pi_list (pv 2)) (blkOk_by (N := N_law_taken_right) (sc := defScope s_law_taken_right) (by decide +kernel)) (fun _ _ _ _ _ => (pg_name (i := 8) sc_law_taken_right.nd rfl (by first | exact Or.inl rfl | exact Or.inr rfl))) (fun _ _ _ _ _ => (pts_one (pt_cmpR op_ne (pv 8) (pe_ix (ix_listK K) (pv 2) (pv 4) (fun _ _ => rfl)) (nomark _)))) (fun _ _ _ _ _ => (pv 8)))
      (pss_one (ps_ret (pe_and (pe_cmpR (op_eqDK K hr.units) (pe_meth0 (pv 0) (Tc_Mesh T) (Tm_Mesh_standing T) c_Mesh_standing.1 (hr.mono (by decide)) c_Mesh_standing.2.1 .nil pass0) (pv 22) (nomark _)) (pe_one (pe_cmpR (op_eqDK K hr.units) (pe_meth0 (pv 0) (Tc_Mesh T) (Tm_Mesh_holding T) c_Mesh_holding.1 (hr.mono (by decide)) c_Mesh_holding.2.1 .nil pass0) (pe_call c_law_holding.1 (hr.mono (by decide)) rfl (Tg_law_holding T) c_law_holding.2.2 c_law_holding.2.1 .nil pass0 (pa_cons (pv 16) (pa_cons (pv 22) pa_nil))) (nomark _)))))))))))))))), ?_⟩)
  · obtain ⟨x, pl, rl, nl, ws, rs, ns, t, dr, turn, Ss, D, G, rfl, _⟩ := h
    rfl
  · obtain ⟨x, pl, rl, nl, ws, rs, ns, t, dr, turn, Ss, D, G, rfl, M, hrl, trw, hnl, C, hperm, h140, hfew, ht, hdr, hnm, hSs, q⟩ := h
    have two := C.two
    have hrl0 := M.sub _ _ hrl
    have hnl0 := M.sub _ _ hnl
    walk_at "jrd"
    refine lc_M [] walk_en (fun H' f => SqL.of (frM_nil f _ _ hnl0)) (by simp; omega) (by simp) (fun i acc H' => Tups H' (fun n : Str => [.str n, .int (posIn ns n : Nat)]) acc (ns.take i)) Tups.nil (fun i acc H1 H2 p t m => p.stay t) ?_ ?_
    · rintro i y acc H1 H1' KY KN hi p1 f1 ⟨tt, v, rfl, htt, eT, hT, hv⟩ hacc hY hN
      rw [List.getElem?_map, Option.map_eq_some_iff] at hv
      obtain ⟨n, hn, rfl⟩ := hv
      have hp := posIn_get C.nd hn
      refine w_gtup (r_unp hT rfl (w_gcons (w_gname (w_gcons (w_gname (w_gnil ⟨rfl, ?_⟩))))))
      walk_at "jrd"
      refine ite_T rfl ?_
      walk_at "jrd"
      refine hY _ _ (Same.frM (eT.trans he)) ?_
      rw [take_more hn]
      refine (p1.stay (Same.tups (eT.trans he))).snoc ?_
      rw [hp_1, hp]
    · rintro acc Dd H1 hD g hp p1 _
      rw [List.take_of_length_le (by simp)] at p1
      have e1 := frM_nil g
      walk_at "jrd"
      refine j_dictP hp p1 C.nd fun pd H2 hn2 e2 hpd => ?_
      have M2 := (M.same e1).same e2
      clear hp p1 g
      have hrl2 := M2.sub _ _ hrl
      have hnl2 := M2.sub _ _ hnl
      clear hrl0 hnl0
      walk_at "jrd"
      rw [List.length_map]
      refine r_rng2 (by omega) (by omega) ?_
      have en : ((140 : Int) - (((ns.length : Nat) : Int) - 1)).toNat = 141 - ns.length := by omega
      rw [en]
      have hH2p : H2 p = none := hn
      refine loop_range (fun i σ H5 => Same H2 H5 ∧ (∃ v7 v8 v10 v11 v12 v13 v14 v15 v16 v17 v18 v19 v20 v21 v22, σ = [some (.ref x), some (.ref rl), some (.ref nl), some (.int (t : Nat)), some (.int (dr : Nat)), some (.int (ns.length : Nat)), some (.ref pd), v7, v8, some (.ref p), v10, v11, v12, v13, v14, v15, v16, v17, v18, v19, v20, v21, v22]) ∧ H5 p = some (.lst (intsN ((List.range' (ns.length - 1) i).filter (crX ns rs t)))))
        ⟨he, ⟨_, _, _, _, _, _, _, _, _, _, _, _, _, _, _, rfl⟩, hp⟩ ?_ ?_
      · clear he hp hn
        rintro i σ H5 hi ⟨e5, ⟨v7, v8, v10, v11, v12, v13, v14, v15, v16, v17, v18, v19, v20, v21, v22, rfl⟩, hp5⟩
        have hk : ns.length - 1 + i < rs.length := by omega
        have hr : rs[ns.length - 1 + i]? = some rs[ns.length - 1 + i] := List.getElem?_eq_getElem hk
        obtain ⟨i1, i2⟩ := C.P.inn _ (List.getElem_mem hk)
        obtain ⟨tt, hv, ht'⟩ := (trw.stay (Same.tups (M2.sub.trans e5))).at hr
        have ck : crX ns rs t (ns.length - 1 + i) = decide (¬ (posIn ns (rs[ns.length - 1 + i]).1 ≤ t ↔ posIn ns (rs[ns.length - 1 + i]).2.1 ≤ t)) := by unfold crX; rw [hr]
        rw [List.range'_concat, List.filter_append, Nat.one_mul]
        have hlen : (intsN ((List.range' (ns.length - 1) i).filter (crX ns rs t))).length ≤ 200 := by
          unfold intsN
          rw [List.length_map]
          have := List.length_filter_le (crX ns rs t) (List.range' (ns.length - 1) i)
          rw [List.length_range'] at this
          omega
        generalize rs[ns.length - 1 + i] = r at *
        unfold encR at ht'
        have hrl5 := e5 _ _ hrl2
        have hpd5 := e5 _ _ hpd
        show gName _ (V.int ((((ns.length : Nat) : Int) - 1) + (i : Int))) _ _ _
        rw [show (((ns.length : Nat) : Int) - 1) + (i : Int) = ((ns.length - 1 + i : Nat) : Int) by omega]
        walk_at "jrd"
        refine ite_nof (fun hne => ?_) (fun heq => ?_)
        · walk_at "jrd"
          refine ⟨Same.mut e5 hH2p hf, ⟨_, _, _, _, _, _, _, _, _, _, _, _, _, _, _, rfl⟩, ?_⟩
          have c1 : crX ns rs t (ns.length - 1 + i) = true := by
            rw [ck, decide_eq_true_eq]
            intro z; apply hne
            rw [decide_eq_decide]; omega
          rw [hp, List.filter_cons_of_pos c1, List.filter_nil, ← intsN_snoc]
        · walk_at "jrd"
          refine ⟨e5, ⟨_, _, _, _, _, _, _, _, _, _, _, _, _, _, _, rfl⟩, ?_⟩
          have c1 : ¬ crX ns rs t (ns.length - 1 + i) = true := by
            rw [ck, decide_eq_true_eq]
            intro z; apply z
            rw [decide_eq_decide] at heq; omega
          rw [hp5, List.filter_cons_of_neg c1, List.filter_nil, List.append_nil]
      · clear he hp hn
        rintro σ H5 ⟨e5, ⟨v7, v8, v10, v11, v12, v13, v14, v15, v16, v17, v18, v19, v20, v21, v22, rfl⟩, hp5⟩
        have M5 := M2.same e5
        obtain ⟨dx, fs, j1, j2, _, _⟩ := M5.ins
        have k1 := M5.sub _ _ j1
        walk_at "jrd"
        refine ⟨x, pl, t, turn, Ss, D, G, rfl, M5, (C.nums t).mpr (by omega), by omega, fun qq H6 G6 f6 g6 M6 T6 => ?_⟩
        have np : p ≠ pl := by
          obtain ⟨as, hpl, _, _⟩ := M2.past
          exact (ne_of_none hpl hH2p).symm
        have npd : pd ≠ pl := by
          obtain ⟨as, hpl, _, _⟩ := M2.past
          exact ne_of hpd hpl (by intro z; cases z)
        have hp6 : H6 p = _ := f6 _ _ hp5 np
        have hpd6 : H6 pd = _ := f6 _ _ (e5 _ _ hpd) npd
        have hrl6 := M6.sub _ _ (g6.1 _ _ hrl)
        have hnl6 := M6.sub _ _ (g6.1 _ _ hnl)
        have tr6 := trw.stay (Same.tups (g6.1.trans M6.sub))
        have s1 := g6.1 _ _ j1
        clear f6 k1 hp5 hrl2 hnl2 hpd e5 M5 M2 
        refine w_gname ?_
        refine w_seqK (fun σ H7 => (∃ v7 v8 v9 v10 v11 v12 v13 v14 v15 v16 v17 v18 v19 v20 v21 v22, σ = [some (.ref x), some (.ref rl), some (.ref nl), some (.int (t : Nat)), some (.int (dr : Nat)), some (.int (ns.length : Nat)), some (.ref pd), v7, v8, v9, v10, v11, v12, v13, v14, v15, v16, v17, v18, v19, v20, v21, v22]) ∧ Same H6 H7) ?_ ?_
        · rintro σ H7 ⟨⟨v7, v8, v9, v10, v11, v12, v13, v14, v15, v16, v17, v18, v19, v20, v21, v22, rfl⟩, e7⟩
          have M7 := M6.same e7
          have hrl7 := e7 _ _ hrl6
          have hnl7 := e7 _ _ hnl6
          have tr7 := tr6.stay (Same.tups e7)
          have lw7 := tr7.1
          clear hrl6 hnl6 tr6 hpd6 hp6
          obtain ⟨nd, hnd⟩ : ∃ n, ns[dr]? = some n := ⟨_, List.getElem?_eq_getElem hdr⟩
          have mnd := List.mem_of_getElem? hnd
          have and' : (ns.map V.str)[dr]? = some (V.str nd) := by rw [List.getElem?_map, hnd]; rfl
          have okL := C.ok.less t
          have erows : (D.less t).rows = (numR rs).filter fun q => q.1 ≠ t := by rw [← C.rows]; rfl
          walk_at "jrd"
          refine lc_M [] walk_en (fun H' f => SqL.of (frM_nil f _ _ hrl7)) (by omega) (by simp) (fun i acc H' => acc = intsN (((((numR rs).take i).filter fun q => q.1 ≠ t).filter fun q => q.2.1 = nd ∨ q.2.2.1 = nd).map (·.1))) rfl (fun i acc H1 H2 p t m => p) ?_ ?_
          · rintro i y acc H8 H8' KY KN hi rfl f8 ⟨tt, v, rfl, htt, eT, hT, hv⟩ hacc hY hN
            have e8 := (frM_nil f8).trans eT
            obtain ⟨r, tw, hr, rfl, htw⟩ := (tr7.stay (Same.tups e8)).2 i v hv
            have hnl8 := e8 _ _ hnl7
            rw [take_more (numR_at hr), List.filter_append, List.filter_append, List.map_append] at hY hN
            unfold encR at htw
            refine w_gtup (r_unp hT rfl (w_gcons (w_gname (w_gcons (w_gname (w_gnil ⟨rfl, ?_⟩))))))
            have fT : FrM [] H8 H8' := Same.frM eT
            clear hT eT e8 f8
            walk_at "jrd"
            refine ite_nof (fun z => ?_) (fun z => ?_)
            · have hit : i ≠ t := fun q => z (by rw [q])
              walk_at "jrd"
              refine r_inT hp rfl rfl ?_
              rw [inV_two]
              walk_at "jrd"
              refine ite_of (fun z2 => ?_) (fun z2 => ?_)
              · walk_at "jrd"
                have hf : (([(i, r)] : List Row).filter fun q => q.1 ≠ t).filter (fun q => q.2.1 = nd ∨ q.2.2.1 = nd) = [(i, r)] := by
                  rw [List.filter_cons_of_pos (by simpa using hit), List.filter_nil, List.filter_cons_of_pos (by simpa using z2), List.filter_nil]
                rw [hf] at hY
                exact hY _ _ (fT.trans (Same.frM he)) (by rw [List.map_cons, List.map_nil, intsN_snoc])
              · have hf : (([(i, r)] : List Row).filter fun q => q.1 ≠ t).filter (fun q => q.2.1 = nd ∨ q.2.2.1 = nd) = [] := by
                  rw [List.filter_cons_of_pos (by simpa using hit), List.filter_nil, List.filter_cons_of_neg (by simpa using z2), List.filter_nil]
                rw [hf] at hN
                exact hN _ (fT.trans (Same.frM he)) (by rw [List.map_nil, List.append_nil])
            · have hit : i = t := by omega
              refine ite_F rfl ?_
              have hf : (([(i, r)] : List Row).filter fun q => q.1 ≠ t).filter (fun q => q.2.1 = nd ∨ q.2.2.1 = nd) = [] := by
                rw [List.filter_cons_of_neg (by simpa using hit)]; rfl
              rw [hf] at hN
              exact hN _ fT (by rw [List.map_nil, List.append_nil])
          · rintro acc gl H8 hD8 f8 hgl rfl _
            rw [List.take_of_length_le (by rw [numR_len]; omega), ← erows] at hgl
            have hgl : H8 gl = some (.lst (intsN ((D.less t).at nd))) := hgl
            have e8 := frM_nil f8
            have M8 := M7.same e8
            have k8 := M8.sub _ _ s1
            have hnl8 := e8 _ _ hnl7
            have hrl8 := e8 _ _ hrl7
            have tr8 := tr7.stay (Same.tups e8)
            clear f8 hnl7 hrl7 tr7
            walk_at "jrd"
            refine ⟨x, pl, nd, turn, Ss ++ [D], D.less t, G6, rfl, M8, hperm.mem_iff.mpr mnd, by simp; omega, fun p9 H9 G9 hn9 f9 g9 M9 h9 => ?_⟩
            obtain ⟨as8, hpl8, _, _⟩ := M8.past
            have ngl : gl ≠ pl := (ne_of_none (M7.past.choose_spec.1) hD8).symm
            have hgl9 : H9 gl = _ := f9 _ _ hgl ngl
            have hrl9 := M9.sub _ _ (g9.1 _ _ (g6.1 _ _ hrl))
            have hnl9 := M9.sub _ _ (g9.1 _ _ (g6.1 _ _ hnl))
            have tr9 := trw.stay (Same.tups ((g6.1.trans g9.1).trans M9.sub))
            have s9 := g9.1 _ _ s1
            walk_at "jrd"
            refine r_neSame (dp_lst h9 (fl_intsN _)) (dp_lst hgl9 (fl_intsN _)) (ly_lst (fl_intsN _)) (by decide) ?_
            clear k8 hnl8 hrl8 tr8 f9 hgl h9
            walk_at "jrd"
            refine ite_F rfl ?_
            walk_at "jrd"
            have okD := okL.drop nd
            have erow2 : ((numR rs).filter fun q => q.1 ≠ t).filter (fun q => ¬ q.1 ∈ (D.less t).at nd) = ((D.less t).drop nd).rows := by
              rw [← okL.lessAt nd, ← erows]; rfl
            refine lc_M [] walk_en (fun H' f => SqL.of (frM_nil f _ _ hrl9)) (by omega) (by simp) (fun i acc H' => Tups H' encN acc ((((numR rs).take i).filter fun q : Row => q.1 ≠ t).filter fun q : Row => ¬ q.1 ∈ (D.less t).at nd)) Tups.nil (fun i acc H1 H2 p t m => p.stay t) ?_ ?_
            · rintro i y acc H10 H10' KY KN hi t10 f10 ⟨tt, v, rfl, htt, eT, hT, hv⟩ hacc hY hN
              have e10 := (frM_nil f10).trans eT
              obtain ⟨r, tw, hr, rfl, htw⟩ := (tr9.stay (Same.tups e10)).2 i v hv
              have hgl10 := e10 _ _ hgl9
              rw [take_more (numR_at hr), List.filter_append, List.filter_append] at hY hN
              have t10' := t10.stay (Same.tups eT)
              unfold encR at htw
              refine w_gtup (r_unp hT rfl (w_gcons (w_gname (w_gcons (w_gname (w_gnil ⟨rfl, ?_⟩))))))
              have fT : FrM [] H10 H10' := Same.frM eT
              clear hT eT e10 f10 t10
              walk_at "jrd"
              refine ite_nof (fun z => ?_) (fun z => ?_)
              · have hit : i ≠ t := fun q => z (by rw [q])
                walk_at "jrd"
                refine r_ninL hgl10 rfl (fl_ints _) ?_
                rw [inV_ints]
                walk_at "jrd"
                refine ite_nof (fun z2 => ?_) (fun z2 => ?_)
                · walk_at "jrd"
                  have hf : (([(i, r)] : List Row).filter fun q => q.1 ≠ t).filter (fun q => ¬ q.1 ∈ (D.less t).at nd) = [(i, r)] := by
                    rw [List.filter_cons_of_pos (by simpa using hit), List.filter_nil, List.filter_cons_of_pos (by simpa using z2), List.filter_nil]
                  rw [hf] at hY
                  exact hY _ _ (fT.trans (Same.frM (he.trans he_1))) ((t10'.stay (Same.tups (he.trans he_1))).snoc (x := (i, r)) hp_1)
                · have hf : (([(i, r)] : List Row).filter fun q => q.1 ≠ t).filter (fun q => ¬ q.1 ∈ (D.less t).at nd) = [] := by
                    rw [List.filter_cons_of_pos (by simpa using hit), List.filter_nil, List.filter_cons_of_neg (by simpa using z2), List.filter_nil]
                  rw [hf, List.append_nil] at hN
                  exact hN _ fT t10'
              · have hit : i = t := by omega
                refine ite_F rfl ?_
                have hf : (([(i, r)] : List Row).filter fun q => q.1 ≠ t).filter (fun q => ¬ q.1 ∈ (D.less t).at nd) = [] := by
                  rw [List.filter_cons_of_neg (by simpa using hit)]; rfl
                rw [hf, List.append_nil] at hN
                exact hN _ fT t10'
            · rintro acc sl H10 hD10 f10 hsl t10 _
              rw [List.take_of_length_le (by rw [numR_len]; omega), erow2] at t10
              have e10 := frM_nil f10
              have hnl10 := e10 _ _ hnl9
              have M10 := M9.same e10
              clear f10 hgl9 hrl9 hnl9 tr9
              walk_at "jrd"
              refine lc_M [] walk_list (fun H' f => SqL.of (frM_nil f _ _ hnl10)) (by rw [List.length_map]; omega) (by simp) (fun i acc H' => acc = ((ns.take i).filter fun m => m ≠ nd).map V.str) rfl (fun i acc H1 H2 p t m => p) ?_ ?_
              · rintro i y acc H11 H11' KY KN hi rfl f11 ⟨rfl, hy⟩ hacc hY hN
                rw [List.getElem?_map, Option.map_eq_some_iff] at hy
                obtain ⟨m, hm, rfl⟩ := hy
                rw [take_more hm, List.filter_append, List.map_append] at hY hN
                have hnl11 := frM_nil f11 _ _ hnl10
                clear f11
                walk_at "jrd"
                refine ⟨rfl, ?_⟩
                walk_at "jrd"
                refine ite_nof (fun z => ?_) (fun z => ?_)
                · walk_at "jrd"
                  refine hY _ _ (FrM.refl _ _) ?_
                  rw [List.filter_cons_of_pos (by simpa using z)]; rfl
                · refine hN _ (FrM.refl _ _) ?_
                  rw [List.filter_cons_of_neg (by simpa using z), List.filter_nil, List.map_nil, List.append_nil]
              · rintro acc fl H11 hD11 f11 hfl rfl _
                rw [List.length_map, List.take_length] at hfl
                have e11 := frM_nil f11
                have hsl11 := e11 _ _ hsl
                have t11 := t10.stay (Same.tups e11)
                have M11 := M10.same e11
                have k11 := M11.sub _ _ s9
                have flR := fl_encN okD.inn fun n hn => hnm n (hperm.mem_iff.mp (List.mem_filter.mp hn).1)
                clear f11 hsl t10 hnl10
                walk_at "jrd"
                refine ⟨x, pl, turn, Ss ++ [D] ++ [D.less t], (D.less t).drop nd, G9, rfl, M11, fun p12 H12 ws12 hn12 e12 h12 t12 => ?_⟩
                have hfl12 := e12 _ _ hfl
                have hsl12 := e12 _ _ hsl11
                have t112 := t11.stay (Same.tups e12)
                have M12 := M11.same e12
                have k12 := M12.sub _ _ s9
                clear k11 hsl11 t11 hfl
                walk_at "jrd"
                refine r_eqSame (dp_tups h12 t12 flR) (dp_tups hsl12 t112 flR) (ly_tups flR) (by decide) ?_
                walk_at "jrd"
                refine ite_T rfl ?_
                walk_at "jrd"
                refine ⟨x, pl, turn, Ss ++ [D] ++ [D.less t], (D.less t).drop nd, G9, rfl, M12, fun p13 H13 hn13 e13 h13 => ?_⟩
                have hfl13 := e13 _ _ hfl12
                have hsl13 := e13 _ _ hsl12
                have t113 := t112.stay (Same.tups e13)
                have okn : ∀ n, n ∈ ((D.less t).drop nd).names → n ∈ ns.filter fun m => m ≠ nd := fun n hn => by
                  obtain ⟨h1, h2⟩ := List.mem_filter.mp hn
                  exact List.mem_filter.mpr ⟨hperm.mem_iff.mp h1, h2⟩
                walk_at "jrd"
                refine ⟨fl, sl, _, _, ((D.less t).drop nd).rows, rfl, hfl13, hsl13, t113, ⟨C.nd.filter _, by have := List.length_filter_le (fun m => decide (m ≠ nd)) ns; omega, by have := okD.len; omega, fun r hr => ⟨okn _ (okD.inn r hr).1, okn _ (okD.inn r hr).2⟩⟩, fun p14 H14 hn14 e14 h14 => ?_⟩
                walk_at "jrd"
                exact r_eqSame (dp_lst (e14 _ _ h13) (fl_intsN _)) (dp_lst h14 (fl_intsN _)) (ly_lst (fl_intsN _)) (by decide) (q _)
        · intro key
          obtain ⟨n0, hn0⟩ : ∃ n, ns[0]? = some n := ⟨_, List.getElem?_eq_getElem (by omega)⟩
          obtain ⟨nz, hnz⟩ : ∃ n, ns[ns.length - 1]? = some n := ⟨_, List.getElem?_eq_getElem (by omega)⟩
          have p0 := posIn_get C.nd hn0
          have pz := posIn_get C.nd hnz
          have m0 := List.mem_of_getElem? hn0
          have mz := List.mem_of_getElem? hnz
          have a0 : atI (ns.map V.str) 0 = some (.str n0) := atI_nat (j := 0) (by rw [List.getElem?_map, hn0]; rfl)
          have az : atI (ns.map V.str) (-1) = some (.str nz) := atI_end (by rw [List.length_map, List.getElem?_map, hnz]; rfl)
          rcases T6 with ⟨h, _⟩ | ⟨_, j, hj, hc, hl, hq⟩ | ⟨_, hno, r, c1, c2, hr, hq, hc1, hc2⟩
          · exact absurd (C.heldT ht) h
          · have hjl := (C.nums j).mp hj
            obtain ⟨r, hr⟩ : ∃ r, rs[j]? = some r := ⟨_, List.getElem?_eq_getElem hjl⟩
            obtain ⟨cr, jc⟩ := (C.cross ht hr).mp hc
            obtain ⟨i1, i2⟩ := C.P.inn _ (List.mem_of_getElem? hr)
            have l1 := posIn_lt i1
            have l2 := posIn_lt i2
            obtain ⟨rest, ef⟩ := first_filter (X := crX ns rs t) (n := 141 - ns.length) (a := ns.length - 1) (j := j) jc (by omega) (by unfold crX; rw [hr]; exact decide_eq_true cr) (fun i hi1 hi2 => by
              have hil : i < rs.length := by omega
              have hri : rs[i]? = some rs[i] := List.getElem?_eq_getElem hil
              unfold crX
              rw [hri]
              refine decide_eq_false fun z => hl i ((C.nums i).mpr hil) hi2 ((C.cross ht hri).mpr ⟨z, hi1⟩))
            rw [ef] at hp6
            have fl6 := fl_intsN (j :: rest)
            have hp6' : H6 p = some (.lst (.int (j : Nat) :: intsN rest)) := hp6
            have haj : atI (V.int (j : Nat) :: intsN rest) 0 = some (.int (j : Nat)) := atI_zero
            obtain ⟨tj, hvj, htj⟩ := tr6.at hr
            unfold encR at htj
            walk_at "jrd"
            refine r_eqNil (dp_lst (he _ _ hp6) fl6) (ly_lst fl6) (by decide) hp ?_
            walk_at "jrd"
            refine ite_F rfl ?_
            clear hp6
            walk_at "jrd"
            refine ite_side ?_
            walk_at "jrd"
            rw [int_min, int_max]
            generalize hL : min (posIn ns r.1) (posIn ns r.2.1) = lf
            generalize hR : max (posIn ns r.1) (posIn ns r.2.1) = rt
            have hst : (if ((posIn ns r.1 : Nat) : Int) ≤ ((t : Nat) : Int) then (1 : Int) else -1) = (if posIn ns r.1 ≤ t then (1 : Int) else -1) := by split <;> split <;> first | rfl | omega
            rw [hst]
            generalize hS : (if posIn ns r.1 ≤ t then (1 : Int) else -1) = sd
            have M7 := M6.same he
            refine ⟨rl, nl, ws, rs, ns, 0, lf, rfl, he _ _ hrl6, tr6.stay (Same.tups he), he _ _ hnl6, by omega, by omega, by omega, by omega, fun w1 H8 hn8 e8 hw1 => ?_⟩
            rw [Nat.sub_zero] at hw1
            obtain ⟨us1, hu1, tu1⟩ := hw1
            have lu1 := tu1.1
            have llf : (chainW rs ns 0 lf).length = lf := by unfold chainW; simp
            have e68 := he.trans e8
            have hp8 := e68 _ _ hp6'
            clear hp he hp6'
            walk_at "jrd"
            have e8a := (he.trans he_1).trans he_2
            have e6a := e68.trans e8a
            have tu13 : Tups _ encP (us1 ++ [.ref p_2]) (chainW rs ns 0 lf ++ [(j, sd)]) := Tups.snoc (x := (j, sd)) (tu1.stay (Same.tups e8a)) (he_2 _ _ (he_1 _ _ hp))
            have lu13 : (us1 ++ [V.ref p_2]).length = lf + 1 := by simp [lu1, llf]
            have hpa := e8a _ _ hp8
            have hd13 := hp_2
            generalize us1 ++ [V.ref p_2] = us13 at *
            generalize p_4 = du at *
            clear hp hp_1 hp_2 he he_1 he_2 hn_1 hn_2 hp8 hu1 tu1 e8 hn8
            have bw : (2 : Nat) ≤ 2 := Nat.le_refl _
            refine ⟨rl, nl, ws, rs, ns, t + 1, rt, rfl, e6a _ _ hrl6, tr6.stay (Same.tups e6a), e6a _ _ hnl6, by omega, by omega, by omega, by omega, fun w2 H10 hn10 e10 hw2 => ?_⟩
            obtain ⟨us2, hu2, tu2⟩ := hw2
            have lu2 := tu2.1
            have ll2 : (chainW rs ns (t + 1) (rt - (t + 1))).length = rt - (t + 1) := by unfold chainW; simp
            refine r_iterT hu2 ?_
            refine lc_M [] walk_tup (fun H' f => SqT.of (frM_nil f _ _ hu2)) (by omega) (by simp) (fun i acc H' => Tups H' encP acc (((chainW rs ns (t + 1) (rt - (t + 1))).take i).map fun p : Nat × Int => (p.1, 0 - p.2))) Tups.nil (fun i acc H1 H2 p t m => p.stay t) ?_ ?_
            · rintro i y acc H11 H11' KY KN hi t11 f11 ⟨rfl, hy⟩ hacc hY hN
              obtain ⟨⟨k2, s2⟩, tt, hp2, rfl, htt⟩ := (tu2.stay (Same.tups (frM_nil f11))).2 i y hy
              rw [take_more hp2, List.map_append] at hY
              unfold encP at htt
              clear f11
              walk_at "jrd"
              refine ⟨rfl, ?_⟩
              walk_at "jrd"
              refine ite_T rfl ?_
              walk_at "jrd"
              exact hY _ _ (Same.frM he) ((t11.stay (Same.tups he)).snoc (x := (k2, 0 - s2)) hp)
            · rintro acc pb H11 hD11 f11 hpb t11 _
              rw [List.take_of_length_le (by omega)] at t11
              have ea := e10.trans (frM_nil f11)
              have e6b := e6a.trans ea
              have hqb := e6b _ _ hq
              have hpb9 := ea _ _ hpa
              have hdb := ea _ _ hd13
              have tub := tu13.stay (Same.tups ea)
              have Mb := M6.same e6b
              have kb := Mb.sub _ _ s1
              have hnlb := e6b _ _ hnl6
              have flh : ∀ v ∈ [V.str ("held" : Str), V.int (j : Nat)], flV v = true := fun v hv => by
                simp only [List.mem_cons, List.not_mem_nil, or_false] at hv
                rcases hv with rfl | rfl
                · decide +kernel
                · rfl
              clear f11 ea e10 hu2 tu2 hd13 hpa tu13 hpd6 
              refine w_gname ?_
              walk_at "jrd"
              refine r_neSame (dp_tup (he _ _ hqb) flh) (dp_tup hp flh) (ly_tup flh) (by decide) ?_
              have e6c := e6b.trans he
              have hdc := he _ _ hdb
              have tuc := tub.stay (Same.tups he)
              have Mc := Mb.same he
              have kc := Mc.sub _ _ s1
              have hnlc := he _ _ hnlb
              have hpbc := he _ _ hpb
              have t11c := t11.stay (Same.tups he)
              clear he hp hqb hdb tub kb hnlb hpb9 hpb
              walk_at "jrd"
              refine ite_F rfl ?_
              walk_at "jrd"
              refine ⟨x, pl, n0, nz, turn, Ss ++ [D], D.less t, G6, rfl, Mc, hperm.mem_iff.mpr m0, hperm.mem_iff.mpr mz, fun H12 L e12 g c => ⟨fun z => absurd (C.lessLab ht hr hc hl m0 mz) z, fun w a hw ha _ => ?_⟩⟩
              have hwz := C.lessWay ht hr hc hl p0 g hw
              rw [hL, hR, hS, pz] at hwz
              have hwz2 : w = (chainW rs ns 0 lf ++ [(j, sd)]) ++ chainW rs ns rt (ns.length - 1 - rt) := by
                rw [hwz]; unfold takenW
                rw [if_neg (show ¬ ns.length - 1 ≤ t by omega), if_pos (show rt ≤ ns.length - 1 by omega)]
              walk_at "jrd"
              rw [show ((ns.length : Nat) : Int) - 1 = ((ns.length - 1 : Nat) : Int) by omega]
              have e6d := e6c.trans e12
              refine ⟨rl, nl, ws, rs, ns, rt, ns.length - 1, rfl, e6d _ _ hrl6, tr6.stay (Same.tups e6d), e6d _ _ hnl6, by omega, by omega, by omega, by omega, fun w3 H13 hn13 e13 ⟨us3, hu3, tu3⟩ => ?_⟩
              have ll3 : (chainW rs ns rt (ns.length - 1 - rt)).length = ns.length - 1 - rt := by unfold chainW; simp
              have lu3 := tu3.1
              have hdd := e13 _ _ (e12 _ _ hdc)
              walk_at "jrd"
              refine j_cat hdd hu3 (by omega) fun p5 H14 he hp => ?_
              refine r_neWay ((ha.same e13).same he) ⟨_, hp, ?_⟩ ?_
              · rw [hwz2]
                exact ((tuc.stay (Same.tups ((e12.trans e13).trans he))).app (tu3.stay (Same.tups he)))
              have e6e := (e6d.trans e13).trans he
              have ece := (e12.trans e13).trans he
              have hde := ece _ _ hdc
              have tue := tuc.stay (Same.tups ece)
              have Me := Mc.same ece
              have ke := Me.sub _ _ s1
              have hnle := ece _ _ hnlc
              have hpbe := ece _ _ hpbc
              have t11e := t11c.stay (Same.tups ece)
              obtain ⟨nt, hnt⟩ : ∃ n, ns[t + 1]? = some n := ⟨_, List.getElem?_eq_getElem (by omega)⟩
              have pt := posIn_get C.nd hnt
              have mt := List.mem_of_getElem? hnt
              have at1 : atI (ns.map V.str) ((t : Int) + 1) = some (.str nt) := by
                have := atI_nat (xs := ns.map V.str) (j := t + 1) (v := V.str nt) (by rw [List.getElem?_map, hnt]; rfl)
                exact this
              clear he hp hdd hu3 tu3 e13 ha e12 hdc tuc kc hnlc hpbc t11c
              walk_at "jrd"
              refine ite_F rfl ?_
              walk_at "jrd"
              refine ⟨x, pl, n0, nt, turn, Ss ++ [D], D.less t, G6, rfl, Me, hperm.mem_iff.mpr m0, hperm.mem_iff.mpr mt, fun H15 L2 e15 g2 c2 => ⟨fun z => absurd (C.lessLab ht hr hc hl m0 mt) z, fun w' a2 hw2 ha2 _ => ?_⟩⟩
              have hwt := C.lessWay ht hr hc hl p0 g2 hw2
              rw [hL, hR, hS, pt] at hwt
              have hwt2 : w' = (chainW rs ns 0 lf ++ [(j, sd)]) ++ backW rs ns (t + 1) (rt - (t + 1)) := by
                rw [hwt]; unfold takenW
                rw [if_neg (show ¬ t + 1 ≤ t by omega)]
                by_cases z : rt ≤ t + 1
                · rw [if_pos z, show t + 1 - rt = 0 by omega, show rt - (t + 1) = 0 by omega]; rfl
                · rw [if_neg z]
              have hde2 := e15 _ _ hde
              have hpb2 := e15 _ _ hpbe
              walk_at "jrd"
              refine r_slTany hde2 fun p6 H16 e16 hp16 => ?_
              have ecut : cutV us13 none (some ((lf : Int) + 1)) = us13 := by
                have := cutV_upto us13 (lf + 1)
                rw [show ((lf + 1 : Nat) : Int) = (lf : Int) + 1 by omega] at this
                rw [this, List.take_of_length_le (by omega)]
              rw [ecut] at hp16
              refine w_trev ?_
              walk_at "jrd"
              refine j_trev (e16 _ _ hpb2) fun p7 H17 hn17 e17 hp17 => ?_
              have lacc := t11e.1
              rw [List.length_map] at lacc
              refine j_cat (e17 _ _ hp16) hp17 (by rw [List.length_reverse]; omega) fun p8 H18 e18 hp18 => ?_
              have e158 := (e16.trans e17).trans e18
              refine r_neWay (ha2.same e158) ⟨_, hp18, ?_⟩ ?_
              · rw [hwt2]
                exact (tue.stay (Same.tups (e15.trans e158))).app (t11e.rev.stay (Same.tups (e15.trans e158)))
              walk_at "jrd"
              refine ite_F rfl ?_
              walk_at "jrd"
              exact key _ _ ⟨⟨_, _, _, _, _, _, _, _, _, _, _, _, _, _, _, _, rfl⟩, (e6e.trans e15).trans e158⟩
          · have ef : (List.range' (ns.length - 1) (141 - ns.length)).filter (crX ns rs t) = [] := by
              refine List.filter_eq_nil_iff.mpr fun k hk hx => ?_
              rw [List.mem_range'_1] at hk
              have hk2 : k < rs.length := by omega
              have hr2 : rs[k]? = some rs[k] := List.getElem?_eq_getElem hk2
              unfold crX at hx
              rw [hr2] at hx
              exact hno k ((C.nums k).mpr hk2) ((C.cross ht hr2).mpr ⟨of_decide_eq_true hx, by omega⟩)
            rw [ef] at hp6
            have hp6 : H6 p = some (.lst []) := hp6
            walk_at "jrd"
            refine r_eqNil (ds := []) (n := 1) (dp_nil (he _ _ hp6)) ⟨rfl, by decide⟩ (by decide) hp ?_
            walk_at "jrd"
            refine ite_T rfl ?_
            walk_at "jrd"
            have ec1 : cutV (ns.map V.str) none (some ((t : Int) + 1)) = (ns.take (t + 1)).map V.str := by
              have := cutV_upto (ns.map V.str) (t + 1)
              rw [show ((t + 1 : Nat) : Int) = (t : Int) + 1 by omega] at this
              rw [this, List.map_take]
            have ec2 : cutV (ns.map V.str) (some ((t : Int) + 1)) none = (ns.drop (t + 1)).map V.str := by
              have := cutV_from (ns.map V.str) (t + 1)
              rw [show ((t + 1 : Nat) : Int) = (t : Int) + 1 by omega] at this
              rw [this, List.map_drop]
            rw [ec1] at hp_1
            refine r_sortedS hp_1 (by rw [List.length_take]; omega) fun ys1 q1 H8 hy1 hs1 hn1' he1 hq1 => ?_
            have e68 := ((he.trans he_1).trans he1)
            have hnl8 := e68 _ _ hnl6
            clear hp_1 he_1 he1 hp hn hn_1 hn1'
            walk_at "jrd"
            rw [ec2] at hp
            refine r_sortedS hp (by rw [List.length_drop]; omega) fun ys2 q2 H9 hy2 hs2 hn2' he2 hq2 => ?_
            have e69 := (e68.trans he_1).trans he2
            have hq1' := he2 _ _ (he_1 _ _ hq1)
            clear hp he_1 hn hnl8 e68 hq1 he2 hn2' he
            refine w_nil (j_par ?_)
            dsimp only
            have hrt : rs[t]? = some r := by
              have h1 : (t, r) ∈ numR rs := by rw [← C.rows]; exact hr
              exact numR_get h1
            obtain ⟨i1, i2⟩ := C.P.inn _ (List.mem_of_getElem? hrt)
            obtain ⟨tt, hvt, htt⟩ := (tr6.stay (Same.tups e69)).at hrt
            obtain ⟨r0, hr0, _, hlk, _⟩ := C.row ht
            have er : r0 = r := by rw [hr0] at hrt; exact Option.some.inj hrt
            subst er
            unfold encR at htt
            have hrl9 := e69 _ _ hrl6
            have hpd9 := e69 _ _ hpd6
            -- the two classes
            have cls : ∀ (z : Str) (ys l : List Str), z ∈ ns → PyProof.Rows.sortedS ys = true → ys.Perm l → l.Nodup → (∀ m, m ∈ l ↔ m ∈ ns ∧ (posIn ns z ≤ t ↔ posIn ns m ≤ t)) → D.names.filter (fun m => (D.less t).lab z = (D.less t).lab m) = ys := by
              intro z ys l hz hs hy hnd hm
              refine sorted_uniq (sorted_filter C.ok.srt _) hs ((perm_of (C.ok.nd.filter _) hnd fun m => ?_).trans hy.symm)
              rw [List.mem_filter, decide_eq_true_eq, hm m, hperm.mem_iff]
              constructor
              · rintro ⟨h1, h2⟩; exact ⟨h1, (C.parted ht hno hz h1).mp h2⟩
              · rintro ⟨h1, h2⟩; exact ⟨h1, (C.parted ht hno hz h1).mpr h2⟩
            have nd1 : (ns.take (t + 1)).Nodup := C.nd.sublist (List.take_sublist _ _)
            have nd2 : (ns.drop (t + 1)).Nodup := C.nd.sublist (List.drop_sublist _ _)
            refine w_seqK (fun σ H10 => (∃ v7 v8 v9 v11 v12 v14 v15 v16 v17 v18 v19 v20 v21 v22 da, σ = [some (.ref x), some (.ref rl), some (.ref nl), some (.int (t : Nat)), some (.int (dr : Nat)), some (.int (ns.length : Nat)), some (.ref pd), v7, v8, v9, some (.ref qq), v11, v12, some (.ref da), v14, v15, v16, v17, v18, v19, v20, v21, v22] ∧ ∃ a b l1 l2, H10 da = some (.tup [.ref a, .ref b]) ∧ H10 a = some (.lst (l1.map V.str)) ∧ H10 b = some (.lst (l2.map V.str)) ∧ D.names.filter (fun m => (D.less t).lab r0.1 = (D.less t).lab m) = l1 ∧ D.names.filter (fun m => (D.less t).lab r0.2.1 = (D.less t).lab m) = l2) ∧ Same H6 H10) ?_ ?_
            · rintro σ H10 ⟨⟨v7, v8, v9, v11, v12, v14, v15, v16, v17, v18, v19, v20, v21, v22, da, rfl, a, b, l1, l2, h1, h2, h3, e1, e2⟩, e10⟩
              subst e1 e2
              have fl : ∀ z : Str, ∀ n ∈ D.names.filter (fun m => (D.less t).lab z = (D.less t).lab m), IsNm n := fun z n hn => hnm n (hperm.mem_iff.mp (List.mem_filter.mp hn).1)
              have hq10 := e10 _ _ hq
              have hc110 := e10 _ _ hc1
              have hc210 := e10 _ _ hc2
              have M10 := M6.same e10
              have k10 := M10.sub _ _ s1
              have hnl10 := e10 _ _ hnl6
              clear hrl9 hpd9 hq1' hq2 htt
              walk_at "jrd"
              have es := he.trans he_1
              refine r_neSame (dp_parted (es _ _ hq10) (es _ _ hc110) (es _ _ hc210) (fl _) (fl _)) (dp_parted hp_1 (es _ _ h2) (es _ _ h3) (fl _) (fl _)) (ly_parted (fl _) (fl _)) (by decide) ?_
              have M11 := M10.same es
              have k11 := M11.sub _ _ s1
              have hnl11 := es _ _ hnl10
              clear k10 hnl10 h1 h2 h3 hq10 hc110 hc210 he he_1 hp hp_1
              walk_at "jrd"
              refine ite_F rfl ?_
              walk_at "jrd"
              refine ⟨x, pl, n0, nz, turn, Ss ++ [D], D.less t, G6, rfl, M11, hperm.mem_iff.mpr m0, hperm.mem_iff.mpr mz, fun H12 L e12 g c => ⟨fun hlab => ?_, fun w a hw ha hlab => ?_⟩⟩
              · walk_at "jrd"
                refine ite_F (by simp) ?_
                walk_at "jrd"
                exact key _ _ ⟨⟨_, _, _, _, _, _, _, _, _, _, _, _, _, _, _, _, rfl⟩, (e10.trans es).trans e12⟩
              · have := (C.parted ht hno m0 mz).mp hlab
                omega
            · intro key2
              walk_at "jrd"
              refine ite_of (fun z => ?_) (fun z => ?_)
              · walk_at "jrd"
                refine key2 _ _ ⟨⟨_, _, _, _, _, _, _, _, _, _, _, _, _, _, _, rfl, q1, q2, ys1, ys2, hp, he _ _ hq1', he _ _ hq2, ?_, ?_⟩, e69.trans he⟩
                · exact cls _ _ _ i1 hs1 hy1 nd1 fun m => by rw [mem_take_pos C.nd]; constructor <;> rintro ⟨h1, h2⟩ <;> exact ⟨h1, by omega⟩
                · exact cls _ _ _ i2 hs2 hy2 nd2 fun m => by rw [mem_drop_pos C.nd]; constructor <;> rintro ⟨h1, h2⟩ <;> exact ⟨h1, by omega⟩
              · walk_at "jrd"
                refine key2 _ _ ⟨⟨_, _, _, _, _, _, _, _, _, _, _, _, _, _, _, rfl, q2, q1, ys2, ys1, hp, he _ _ hq2, he _ _ hq1', ?_, ?_⟩, e69.trans he⟩
                · exact cls _ _ _ i1 hs2 hy2 nd2 fun m => by rw [mem_drop_pos C.nd]; constructor <;> rintro ⟨h1, h2⟩ <;> exact ⟨h1, by omega⟩
                · exact cls _ _ _ i2 hs1 hy1 nd1 fun m => by rw [mem_take_pos C.nd]; constructor <;> rintro ⟨h1, h2⟩ <;> exact ⟨h1, by omega⟩
end
section
variable {P : Program} {w : World} {K : PySem.W.Frag} {mg : Str → Option Value} {base : Heap}
section
variable {K : PySem.W.Frag} {σ : L2.St} {H : Hp} {Q : VK}
/-- dict([(name, draw(m)) for name in names]) -/
theorem lc_drawB (B : Int → Prop) {a t : Addr} {ns : List Str} {j : Nat} {vs : List Nat} {te : TE} {b : Nat} (h : H a = some (.lst (ns.map V.str))) (nt : a ≠ t) (nd : ns.Nodup) (hz : ns.length ≤ 1000) (T : Tape H t b) (hb : b ≤ 100000)
    (hw : ∀ n : Str, wipe ((wipe σ vs).set j (some (.str n))) vs = wipe σ vs ∧ ((wipe σ vs).set j (some (.str n)))[j]? = some (some (.str n)))
    (he : ∀ n H' Q b', n ∈ ns → Tape H' t b' → b' ≤ 1000000 → (∀ (r : Int) H2, B r → Fr1 t H' H2 → Tape H2 t (b' + 1) → Q (.int r) H2) → te ((wipe σ vs).set j (some (.str n))) H' Q)
    (k : ∀ p H' (f : Str → Int), (∀ n ∈ ns, B (f n)) → (hn : H p = none) → (he : FrM [t] H H') → Tape H' t (b + ns.length) → (hp : H' p = some (.dK (dmap ns fun n => .int (f n)))) → Q (.ref p) H') :
    LcAt (Itl K a) (gName j) tYes (tTup (tCons (tVar j) (tCons te tNil))) vs σ (fun x H1 => tNil σ H1 fun xs H2 => jDictP K (x :: xs) H2 Q) H := by
  have nt' : ¬ a ∈ [t] := by simpa using nt
  obtain ⟨xt, ht⟩ := T.some
  refine lc_M [t] walk_list (fun H' g => SqL.of (g _ _ h nt')) (by simp; omega) (by simp [ht]) (fun i acc H' => ∃ f : Str → Int, Tups H' (fun n : Str => [.str n, .int (f n)]) acc (ns.take i) ∧ Tape H' t (b + i) ∧ ∀ n ∈ ns.take i, B (f n)) ⟨fun _ => 0, Tups.nil, T, by simp⟩ (fun i acc H1 H2 ⟨f, p, q, z⟩ t m => ⟨f, p.stay t, q.stay fun o ho => by rw [m _ (by simp)]; exact ho, z⟩) ?_ ?_
  · rintro i y acc H1 H1' KY KN hi ⟨f, p1, q1, bb⟩ f1 ⟨rfl, hy⟩ hacc hY hN
    rw [List.getElem?_map, Option.map_eq_some_iff] at hy
    obtain ⟨n, hm, rfl⟩ := hy
    have hi' : i < ns.length := (List.getElem?_eq_some_iff.mp hm).1
    refine ⟨(hw n).1, w_tyes (ite_T rfl ?_)⟩
    refine ⟨_, (hw n).2, he n H1' _ (b + i) (List.mem_of_getElem? hm) q1 (by omega) fun r H2 hB f2 T2 => ?_⟩
    obtain ⟨x1, h1⟩ := q1.some
    obtain ⟨x2, h2⟩ := T2.some
    refine ⟨sz _ (by simp), fun p hp => hY (.ref p) (upd H2 p (.tup [.str n, .int r])) ?_ ⟨fun m => if m ∈ ns.take i then f m else r, ?_, ?_, fun n' hn' => ?_⟩⟩
    · exact f2.many.trans (Same.frM (same_new hp))
    · rw [take_more hm]
      have hnot : ¬ n ∈ ns.take i := fun z => by
        obtain ⟨j', hj', hje⟩ := List.mem_iff_getElem.mp z
        rw [List.length_take] at hj'
        have h2 : ns[j']? = some n := by rw [← hje, List.getElem_take]; exact List.getElem?_eq_getElem _
        have h3 := (List.getElem?_inj (by omega) nd).mp (h2.trans hm.symm)
        omega
      refine Tups.snoc ?_ (by show _ = some (HO.tup [V.str n, V.int (if n ∈ ns.take i then f n else r)]); rw [if_neg hnot]; exact upd_same)
      have e : TupS H1' (upd H2 p (.tup [.str n, .int r])) := (Fr1.tups f2 h1 (by intro xs z; cases z)).trans (Same.tups (same_new hp))
      refine ⟨p1.1, fun i2 v hv => ?_⟩
      obtain ⟨x, t', z1, z2, z3⟩ := (p1.stay e).2 i2 v hv
      refine ⟨x, t', z1, z2, ?_⟩
      show _ = some (HO.tup [V.str x, V.int (if x ∈ _ then f x else r)])
      rw [if_pos (List.mem_of_getElem? z1)]; exact z3
    · exact T2.stay fun o ho => same_new hp _ _ ho
    · show B (if n' ∈ ns.take i then f n' else r)
      by_cases z : n' ∈ ns.take i
      · rw [if_pos z]; exact bb n' z
      · rw [if_neg z]; exact hB
  · rintro acc D' H' hD g hp ⟨f, p1, q1, bb⟩ _
    rw [List.take_of_length_le (by simp)] at p1 bb
    rw [List.length_map] at q1
    refine j_dictP hp p1 nd fun p H2 hn e2 h2 => k p H2 f bb ?_ (g.trans (Same.frM e2)) (q1.same e2) h2
    cases e : H p with
    | none => rfl
    | some o =>
      by_cases z : p ∈ [t]
      · rw [List.mem_singleton] at z; subst z
        obtain ⟨x, hx⟩ := q1.some
        rw [hx] at hn; cases hn
      · rw [g _ _ e z] at hn; cases hn
end
theorem log_abs {i : Int} (h : i.natAbs ≤ 1000000000000) : i.natAbs.log2 < 1920 := by
  by_cases z : i.natAbs = 0
  · rw [z]; decide
  · have := (Nat.log2_lt z (k := 40)).mpr (by omega)
    omega
/-- in the chain's loop -/
structure CmAt (K : PySem.W.Frag) (G H : Hp) (t x pl rl nl sd : Addr) (turn : Int) (sp : Str → Int) (ns : List Str) (Ss : List SD) (rs : List (Str × Str × Int)) (b : Nat) : Prop where
  mesh : MeshAt K G H x pl turn Ss
  sdv : G sd = some (.dK (dmap ns fun n => .int (sp n)))
  nlv : G nl = some (.lst (ns.map V.str))
  tape : Tape H t b
  rws : ∃ ws, H rl = some (.lst ws) ∧ Tups H encR ws rs
  gt : G t = none
  gr : G rl = none
  tp : t ≠ pl
  tr : t ≠ rl
  pr : pl ≠ rl
section
variable {K : PySem.W.Frag} {G H : Hp} {t x pl rl nl sd : Addr} {turn : Int} {sp : Str → Int} {ns : List Str} {Ss : List SD} {rs : List (Str × Str × Int)} {b : Nat}
theorem CmAt.same {H' : Hp} (A : CmAt K G H t x pl rl nl sd turn sp ns Ss rs b) (e : Same H H') : CmAt K G H' t x pl rl nl sd turn sp ns Ss rs b :=
  { A with mesh := A.mesh.same e, tape := A.tape.same e, rws := by obtain ⟨ws, h1, h2⟩ := A.rws; exact ⟨ws, e _ _ h1, h2.stay (Same.tups e)⟩ }
theorem CmAt.draw {H' : Hp} {b' : Nat} (A : CmAt K G H t x pl rl nl sd turn sp ns Ss rs b) (f : Fr1 t H H') (T : Tape H' t b') : CmAt K G H' t x pl rl nl sd turn sp ns Ss rs b' := by
  obtain ⟨xt, ht⟩ := A.tape.some
  have tt : TupS H H' := Fr1.tups f ht (by intro xs z; cases z)
  exact { A with mesh := A.mesh.fr f A.gt A.tp.symm, tape := T, rws := by obtain ⟨ws, h1, h2⟩ := A.rws; exact ⟨ws, f _ _ h1 A.tr.symm, h2.stay tt⟩ }
theorem CmAt.rowsc {H' : Hp} {ws' : List V} {rs' : List (Str × Str × Int)} (A : CmAt K G H t x pl rl nl sd turn sp ns Ss rs b) (f : Fr1 rl H H') (h : H' rl = some (.lst ws')) (h' : Tups H' encR ws' rs') : CmAt K G H' t x pl rl nl sd turn sp ns Ss rs' b :=
  { A with mesh := A.mesh.fr f A.gr A.pr, tape := A.tape.fr f A.tr, rws := ⟨ws', h, h'⟩ }
theorem CmAt.meshc {G' H' : Hp} {Ss' : List SD} (A : CmAt K G H t x pl rl nl sd turn sp ns Ss rs b) (f : Fr1 pl H H') (g : GrowM G H G') (M : MeshAt K G' H' x pl turn Ss') : CmAt K G' H' t x pl rl nl sd turn sp ns Ss' rs b := by
  obtain ⟨as, h1, _, _⟩ := A.mesh.past
  have tt : TupS H H' := Fr1.tups f h1 (by intro xs z; cases z)
  obtain ⟨xt, ht⟩ := A.tape.some
  obtain ⟨ws, h3, h4⟩ := A.rws
  exact { A with mesh := M, sdv := g.1 _ _ A.sdv, nlv := g.1 _ _ A.nlv, tape := A.tape.fr f A.tp, rws := ⟨ws, f _ _ h3 A.pr.symm, h4.stay tt⟩, gt := g.2 _ (by rw [ht]; simp) A.gt, gr := g.2 _ (by rw [h3]; simp) A.gr }
end
/-- what the loop keeps, plainly -/
structure CmP (sp : Str → Int) (turn : Int) (ns : List Str) (D : SD) (rs : List (Str × Str × Int)) : Prop where
  nm : D.names.Perm ns
  rows : D.rows = numR rs
  co : D.coming = rs.length
  P : ChainP ns rs
  st : ∀ r ∈ rs, (r.2.2 - (sp r.2.1 - sp r.1)) % turn = 0 ∧ r.2.2.natAbs ≤ 1000000000000
theorem CmP.right {sp : Str → Int} {turn : Int} {ns : List Str} {D : SD} {rs : List (Str × Str × Int)} (h : CmP sp turn ns D rs) : Right sp turn D := fun q hq => by
  rw [h.rows] at hq
  exact (h.st _ (numR_mem hq)).1
theorem CmP.next {sp : Str → Int} {turn : Int} {ns : List Str} {D : SD} {rs : List (Str × Str × Int)} (h : CmP sp turn ns D rs) {r : Str × Str × Int} (h1 : r.1 ∈ ns ∧ r.2.1 ∈ ns) (h2 : rs.length + 1 < ns.length → (posIn ns r.1 = rs.length ∧ posIn ns r.2.1 = rs.length + 1) ∨ (posIn ns r.1 = rs.length + 1 ∧ posIn ns r.2.1 = rs.length)) (h3 : (r.2.2 - (sp r.2.1 - sp r.1)) % turn = 0 ∧ r.2.2.natAbs ≤ 1000000000000) : CmP sp turn ns (D.more r) (rs ++ [r]) := by
  refine ⟨h.nm, ?_, ?_, ⟨fun q hq => ?_, fun k q hq hk => ?_⟩, fun q hq => ?_⟩
  · show D.rows ++ [(D.coming, r)] = _
    rw [numR_snoc, h.rows, h.co]
  · show D.coming + 1 = _
    rw [h.co]; simp
  · rcases List.mem_append.mp hq with z | z
    · exact h.P.inn q z
    · have : q = r := by simpa using z
      subst this; exact h1
  · rcases Nat.lt_or_ge k rs.length with z | z
    · rw [List.getElem?_append_left z] at hq
      exact h.P.link k q hq hk
    · have e : k = rs.length := by
        have := (List.getElem?_eq_some_iff.mp hq).1
        simp at this; omega
      subst e
      have : q = r := by simpa using hq.symm
      subst this
      exact h2 hk
  · rcases List.mem_append.mp hq with z | z
    · exact h.st q z
    · have : q = r := by simpa using z
      subst this; exact h3
/-- joined or known -/
theorem CmP.due {sp : Str → Int} {turn : Int} {ns : List Str} {D : SD} {rs : List (Str × Str × Int)} (h : CmP sp turn ns D rs) (h0 : 2 ≤ ns.length) {o p : Str} (ho : o ∈ ns) (hp : p ∈ ns) (hl : rs.length + 1 < ns.length → (posIn ns o = rs.length ∧ posIn ns p = rs.length + 1) ∨ (posIn ns o = rs.length + 1 ∧ posIn ns p = rs.length)) :
    D.lab o = D.lab p ↔ ¬ rs.length + 1 < ns.length := by
  have := (chain_labs rs h.P (by omega)).1 o ho p hp
  unfold SD.lab
  rw [h.rows, this]
  have p1 := posIn_lt ho
  have p2 := posIn_lt hp
  constructor
  · intro z hk
    have := hl hk
    omega
  · intro z
    exact .inr (by omega)
abbrev N_law_chain_right : List Str := ["_law_tape_here", "_law_many", "_law_turn", "_law_names_here", "_law_spots", "_law_name", "_law_mesh", "_law_rows", "_law_near", "_law_k", "_law_one", "_law_other", "_law_at", "_law_first", "_law_last", "_law_text", "_law_step", "_law_pairs", "_law_side"]
theorem sc_law_chain_right : FnScope N_law_chain_right ["_law_tape_here"] (defScope s_law_chain_right) := ⟨rfl, rfl, rfl, by decide +kernel, rfl, by decide +kernel, by decide +kernel⟩
theorem ok_law_chain_right (T : Txt w K mg) : OkF P w K mg base 9 (gA K "_law_chain_right") ["_law_tape_here"] (fun vs H Q _ => ∃ (t : Addr) (b : Nat), vs = [.ref t] ∧ Tape H t b ∧ b ≤ 100 ∧ ∀ H', Q (.bl true) H') := by
  obtain ⟨fd_law_draw, c_law_draw⟩ := ok_law_draw (P := P) (base := base) T
  obtain ⟨fd_law_names, c_law_names⟩ := ok_law_names (P := P) (base := base) T
  obtain ⟨fd_Mesh_init, c_Mesh_init⟩ := ok_Mesh_init (P := P) (base := base) T
  obtain ⟨fd_law_right_step, c_law_right_step⟩ := ok_law_right_step (P := P) (base := base) T
  obtain ⟨fd_Mesh_join, c_Mesh_join⟩ := ok_Mesh_join (P := P) (base := base) T
  obtain ⟨fd_Mesh_class_of, c_Mesh_class_of⟩ := ok_Mesh_class_of (P := P) (base := base) T
  obtain ⟨fd_Mesh_way, c_Mesh_way⟩ := ok_Mesh_way (P := P) (base := base) T
  obtain ⟨fd_law_chain_way, c_law_chain_way⟩ := ok_law_chain_way (P := P) (base := base) T
  obtain ⟨fd_Mesh_steps, c_Mesh_steps⟩ := ok_Mesh_steps (P := P) (base := base) T
  obtain ⟨fd_counted, c_counted⟩ := ok_counted (P := P) (base := base) T
  obtain ⟨fd_run, c_run⟩ := ok_run (P := P) (base := base) T
  obtain ⟨fd_law_taken_right, c_law_taken_right⟩ := ok_law_taken_right (P := P) (base := base) T
  have cl_Mesh := Tc_Mesh T
  refine okF (Td_law_chain_right T) sc_law_chain_right (fun _ _ _ _ _ _ us hl => match us, hl with | [_], _ => rfl) (fun vs H Q E h => ?_) (fun cdv A outer s H vs Q E hr h => have hu := hu_of hr; ⟨_, (pss_cons (ps_par (i := 1) (j := 2) (by rfl) sc_law_chain_right.nd rfl rfl (by decide) rfl rfl (pa_cons (pe_op op_add pe_int (pe_call c_law_draw.1 (hr.mono (by decide)) rfl (Tg_law_draw T) c_law_draw.2.2 c_law_draw.2.1 .nil pass0 (pa_cons (pv 0) (pa_cons pe_int pa_nil)))) (pa_cons (pe_ix (ix_listK K) (pe_lst (pa_cons pe_int (pa_cons pe_int (pa_cons pe_int pa_nil)))) (pe_call c_law_draw.1 (hr.mono (by decide)) rfl (Tg_law_draw T) c_law_draw.2.2 c_law_draw.2.1 .nil pass0 (pa_cons (pv 0) (pa_cons pe_int pa_nil))) (fun _ _ => rfl)) pa_nil)) (by rfl))
      (pss_cons (ps_set (i := 3) sc_law_chain_right.nd rfl (by first | exact Or.inl rfl | exact Or.inr rfl) (pe_call c_law_names.1 (hr.mono (by decide)) rfl (Tg_law_names T) c_law_names.2.2 c_law_names.2.1 .nil pass0 (pa_cons (pv 1) pa_nil)))
      (pss_cons (ps_set (i := 4) sc_law_chain_right.nd rfl (by first | exact Or.inl rfl | exact Or.inr rfl) (pe_callTy (call_dictJ K rfl) (by rfl) (Tf_dict T) (by decide +kernel) (pa_cons (pe_lc (own := [("_law_name", 5)]) (tt := tYes) rfl sc_law_chain_right.nd (pi_list (pv 3)) (blkOk_by (N := N_law_chain_right) (sc := defScope s_law_chain_right) (by decide +kernel)) (fun _ _ _ _ _ => (pg_name (i := 5) sc_law_chain_right.nd rfl (by first | exact Or.inl rfl | exact Or.inr rfl))) (fun _ _ _ _ _ => pts_nil) (fun _ _ _ _ _ => (pe_tup (pa_cons (pv 5) (pa_cons (pe_call c_law_draw.1 (hr.mono (by decide)) rfl (Tg_law_draw T) c_law_draw.2.2 c_law_draw.2.1 .nil pass0 (pa_cons (pv 0) (pa_cons (pe_op op_pow pe_int pe_int) pa_nil))) pa_nil))))) pa_nil)))
      (pss_cons (ps_par (i := 6) (j := 7) (by rfl) sc_law_chain_right.nd rfl rfl (by decide) rfl rfl (pa_cons (pe_make (Tk_Mesh T) c_Mesh_init.1 (hr.mono (by decide)) rfl (Tg_Mesh T) c_Mesh_init.2.1 .nil pass0 (pa_cons (pe_callB cr_sortedS (by rfl) (Tf_sorted T) (by decide +kernel) (pa_cons (pv 3) pa_nil)) (pa_cons (pv 2) pa_nil))) (pa_cons (pe_lst pa_nil) pa_nil)) (by rfl))
      (pss_cons (ps_set (i := 8) sc_law_chain_right.nd rfl (by first | exact Or.inl rfl | exact Or.inr rfl) (pe_ix (ix_listK K) (pe_lst (pa_cons pe_int (pa_cons (pv 1) pa_nil))) (pe_call c_law_draw.1 (hr.mono (by decide)) rfl (Tg_law_draw T) c_law_draw.2.2 c_law_draw.2.1 .nil pass0 (pa_cons (pv 0) (pa_cons pe_int pa_nil))) (fun _ _ => rfl)))
      (pss_cons (ps_for PassesOwn.never rfl (pi_range1 rfl (Tf_range T) (pa_cons pe_int pa_nil)) (pg_name (i := 9) sc_law_chain_right.nd rfl (by first | exact Or.inl rfl | exact Or.inr rfl))
      (pss_cons (ps_asg (pe_ifExp (pt_cmpR op_lt (pv 9) (pe_op op_sub (pv 1) pe_int) (nomark _)) (pe_tup (pa_cons (pe_ix (ix_listK K) (pv 3) (pv 9) (fun _ _ => rfl)) (pa_cons (pe_ix (ix_listK K) (pv 3) (pe_op op_add (pv 9) pe_int) (fun _ _ => rfl)) pa_nil))) (pe_tup (pa_cons pe_str (pa_cons pe_str pa_nil)))) (pg_tupK K (n := 2) rfl (pgs_cons (pg_name (i := 10) sc_law_chain_right.nd rfl (by first | exact Or.inl rfl | exact Or.inr rfl)) (pgs_cons (pg_name (i := 11) sc_law_chain_right.nd rfl (by first | exact Or.inl rfl | exact Or.inr rfl)) pgs_nil))))
      (pss_cons (ps_if (pt_cmpR op_eq (pv 10) pe_str (nomark _)) (pss_cons (ps_set (i := 12) sc_law_chain_right.nd rfl (by first | exact Or.inl rfl | exact Or.inr rfl) (pe_call c_law_draw.1 (hr.mono (by decide)) rfl (Tg_law_draw T) c_law_draw.2.2 c_law_draw.2.1 .nil pass0 (pa_cons (pv 0) (pa_cons (pv 1) pa_nil))))
      (pss_one (ps_par (i := 10) (j := 11) (by rfl) sc_law_chain_right.nd rfl rfl (by decide) rfl rfl (pa_cons (pe_ix (ix_listK K) (pv 3) (pv 12) (fun _ _ => rfl)) (pa_cons (pe_ix (ix_listK K) (pv 3) (pe_callB (call_minJ rfl) (by rfl) (Tf_min T) (by decide +kernel) (pa_cons (pe_op op_sub (pv 1) pe_int) (pa_cons (pe_op op_add (pv 12) (pe_call c_law_draw.1 (hr.mono (by decide)) rfl (Tg_law_draw T) c_law_draw.2.2 c_law_draw.2.1 .nil pass0 (pa_cons (pv 0) (pa_cons (pv 8) pa_nil)))) pa_nil))) (fun _ _ => rfl)) pa_nil)) (by rfl)))) pss_nil)
      (pss_cons (ps_if (pt_cmpR op_eq (pe_call c_law_draw.1 (hr.mono (by decide)) rfl (Tg_law_draw T) c_law_draw.2.2 c_law_draw.2.1 .nil pass0 (pa_cons (pv 0) (pa_cons pe_int pa_nil))) pe_int (nomark _)) (pss_one (ps_par (i := 10) (j := 11) (by rfl) sc_law_chain_right.nd rfl rfl (by decide) rfl rfl (pa_cons (pv 11) (pa_cons (pv 10) pa_nil)) (by rfl))) pss_nil)
      (pss_cons (ps_expr (pe_bm PySem.F.plainAttrs_list PySem.F.slot_list_append PySem.F.type_list_append mt_append (pv 7) (pa_cons (pe_tup (pa_cons (pv 10) (pa_cons (pv 11) (pa_cons (pe_call c_law_right_step.1 (hr.mono (by decide)) rfl (Tg_law_right_step T) c_law_right_step.2.2 c_law_right_step.2.1 .nil pass0 (pa_cons (pv 0) (pa_cons (pv 4) (pa_cons (pv 2) (pa_cons (pv 10) (pa_cons (pv 11) pa_nil)))))) pa_nil)))) pa_nil)))
      (pss_one (ps_if (pt_cmpR (op_neDK K hr.units) (pe_meth (pv 6) (Tc_Mesh T) (Tm_Mesh_join T) c_Mesh_join.1 (hr.mono (by decide)) c_Mesh_join.2.1 .nil pass0 (pa_cons (pe_ix (ix_tupK K) (pe_ix (ix_listK K) (pv 7) (pv 9) (fun _ _ => rfl)) pe_int (fun _ _ => rfl)) (pa_cons (pe_ix (ix_tupK K) (pe_ix (ix_listK K) (pv 7) (pv 9) (fun _ _ => rfl)) pe_int (fun _ _ => rfl)) (pa_cons (pe_ix (ix_tupK K) (pe_ix (ix_listK K) (pv 7) (pv 9) (fun _ _ => rfl)) pe_int (fun _ _ => rfl)) pa_nil)))) (pe_tup (pa_cons (pe_ifExp (pt_cmpR op_lt (pv 9) (pe_op op_sub (pv 1) pe_int) (nomark _)) pe_str pe_str) (pa_cons (pv 9) pa_nil))) (nomark _)) (pss_one (ps_ret pe_bl)) pss_nil)))))))
      (pss_cons (ps_par (i := 13) (j := 14) (by rfl) sc_law_chain_right.nd rfl rfl (by decide) rfl rfl (pa_cons (pe_ix (ix_listK K) (pv 3) pe_int (fun _ _ => rfl)) (pa_cons (pe_ix (ix_listK K) (pv 3) (pe_un un_neg pe_int) (fun _ _ => rfl)) pa_nil)) (by rfl))
      (pss_cons (ps_if (PW.pt (pw_or (pt_cmpR (op_neDK K hr.units) (pe_meth (pv 6) (Tc_Mesh T) (Tm_Mesh_way T) c_Mesh_way.1 (hr.mono (by decide)) c_Mesh_way.2.1 .nil pass0 (pa_cons (pv 13) (pa_cons (pv 14) pa_nil))) (pe_call c_law_chain_way.1 (hr.mono (by decide)) rfl (Tg_law_chain_way T) c_law_chain_way.2.2 c_law_chain_way.2.1 .nil pass0 (pa_cons (pv 7) (pa_cons (pv 3) (pa_cons pe_int (pa_cons (pe_op op_sub (pv 1) pe_int) pa_nil))))) (nomark _)) (pw_or1 (pt_cmpR (op_neDK K hr.units) (pe_meth (pv 6) (Tc_Mesh T) (Tm_Mesh_class_of T) c_Mesh_class_of.1 (hr.mono (by decide)) c_Mesh_class_of.2.1 .nil pass0 (pa_cons (pv 14) pa_nil)) (pe_callB cr_sortedS (by rfl) (Tf_sorted T) (by decide +kernel) (pa_cons (pv 3) pa_nil)) (nomark _))))) (pss_one (ps_ret pe_bl)) pss_nil)
      (pss_cons (ps_if (pt_cmpR op_ne (pe_meth (pv 6) (Tc_Mesh T) (Tm_Mesh_steps T) c_Mesh_steps.1 (hr.mono (by decide)) c_Mesh_steps.2.1 .nil pass0 (pa_cons (pv 13) (pa_cons (pv 14) pa_nil))) (pe_call c_counted.1 (hr.mono (by decide)) rfl (Tg_counted T) c_counted.2.2 c_counted.2.1 .nil pass0 (pa_cons (pv 2) (pa_cons (pe_op op_sub (pe_dget hu (pv 4) (pv 14) (fun _ _ => rfl)) (pe_dget hu (pv 4) (pv 13) (fun _ _ => rfl))) pa_nil))) (nomark _)) (pss_one (ps_ret pe_bl)) pss_nil)
      (pss_cons (ps_set (i := 15) sc_law_chain_right.nd rfl (by first | exact Or.inl rfl | exact Or.inr rfl) (pe_m1 PySem.F.slot_str_join PySem.F.type_str_join (mt_joinJ K) pe_str (pe_op op_cat (pe_lst (pa_cons (pe_op op_addSJ pe_str (pe_callTy call_strJ (by rfl) (Tf_str T) (by decide +kernel) (pa_cons (pv 2) pa_nil))) pa_nil)) (pe_lc (own := [("_law_name", 5)]) (tt := tYes) rfl sc_law_chain_right.nd (pi_list (pv 3)) (blkOk_by (N := N_law_chain_right) (sc := defScope s_law_chain_right) (by decide +kernel)) (fun _ _ _ _ _ => (pg_name (i := 5) sc_law_chain_right.nd rfl (by first | exact Or.inl rfl | exact Or.inr rfl))) (fun _ _ _ _ _ => pts_nil) (fun _ _ _ _ _ => (pe_op op_addSJ pe_str (pv 5)))))))
      (pss_cons (ps_for PassesOwn.never rfl (pi_list (pe_slice (sl_listK K) (pv 7) po_none (po_some (pe_op op_sub (pv 1) pe_int)))) (pg_tupK K (n := 3) rfl (pgs_cons (pg_name (i := 10) sc_law_chain_right.nd rfl (by first | exact Or.inl rfl | exact Or.inr rfl)) (pgs_cons (pg_name (i := 11) sc_law_chain_right.nd rfl (by first | exact Or.inl rfl | exact Or.inr rfl)) (pgs_cons (pg_name (i := 16) sc_law_chain_right.nd rfl (by first | exact Or.inl rfl | exact Or.inr rfl)) pgs_nil))))
      (pss_one (ps_set (i := 15) sc_law_chain_right.nd rfl (by first | exact Or.inl rfl | exact Or.inr rfl) (pe_op op_addSJ (pe_op op_addSJ (pe_op op_addSJ (pe_op op_addSJ (pe_op op_addSJ (pe_op op_addSJ (pv 15) pe_str) (pv 10)) pe_str) (pv 11)) pe_str) (pe_callTy call_strJ (by rfl) (Tf_str T) (by decide +kernel) (pa_cons (pv 16) pa_nil))))))
      (pss_cons (ps_set (i := 17) sc_law_chain_right.nd rfl (by first | exact Or.inl rfl | exact Or.inr rfl) (pe_m1 PySem.F.slot_str_join PySem.F.type_str_join (mt_joinJ K) pe_str (pe_lc (own := [("_law_k", 9), ("_law_side", 18)]) (tt := tYes) rfl sc_law_chain_right.nd (pi_tup (pe_call c_law_chain_way.1 (hr.mono (by decide)) rfl (Tg_law_chain_way T) c_law_chain_way.2.2 c_law_chain_way.2.1 .nil pass0 (pa_cons (pv 7) (pa_cons (pv 3) (pa_cons pe_int (pa_cons (pe_op op_sub (pv 1) pe_int) pa_nil)))))) (blkOk_by (N := N_law_chain_right) (sc := defScope s_law_chain_right) (by decide +kernel)) (fun _ _ _ _ _ => (pg_tupK K (n := 2) rfl (pgs_cons (pg_name (i := 9) sc_law_chain_right.nd rfl (by first | exact Or.inl rfl | exact Or.inr rfl)) (pgs_cons (pg_name (i := 18) sc_law_chain_right.nd rfl (by first | exact Or.inl rfl | exact Or.inr rfl)) pgs_nil)))) (fun _ _ _ _ _ => pts_nil) (fun _ _ _ _ _ => (pe_op op_addSJ (pe_callTy call_strJ (by rfl) (Tf_str T) (by decide +kernel) (pa_cons (pv 9) pa_nil)) (pe_ifExp (pt_cmpR op_eq (pv 18) pe_int (nomark _)) pe_str pe_str))))))
      (pss_cons (ps_if (pt_cmpR op_ne (pe_ix (ix_listK K) (pe_call c_run.1 (hr.mono (by decide)) rfl (Tg_run T) c_run.2.2 c_run.2.1 .nil pass0 (pa_cons (pe_op op_addSJ (pe_op op_addSJ (pe_op op_addSJ (pe_op op_addSJ (pv 15) pe_str) (pv 13)) pe_str) (pv 14)) pa_nil)) (pe_un un_neg pe_int) (fun _ _ => rfl)) (pv 17) (nomark _)) (pss_one (ps_ret pe_bl)) pss_nil)
      (pss_one (ps_ret (pe_call c_law_taken_right.1 (hr.mono (by decide)) rfl (Tg_law_taken_right T) c_law_taken_right.2.2 c_law_taken_right.2.1 .nil pass0 (pa_cons (pv 6) (pa_cons (pv 7) (pa_cons (pv 3) (pa_cons (pe_call c_law_draw.1 (hr.mono (by decide)) rfl (Tg_law_draw T) c_law_draw.2.2 c_law_draw.2.1 .nil pass0 (pa_cons (pv 0) (pa_cons (pe_op op_sub (pv 1) pe_int) pa_nil))) (pa_cons (pe_op op_add pe_int (pe_call c_law_draw.1 (hr.mono (by decide)) rfl (Tg_law_draw T) c_law_draw.2.2 c_law_draw.2.1 .nil pass0 (pa_cons (pv 0) (pa_cons (pe_op op_sub (pv 1) pe_int) pa_nil)))) pa_nil))))))))))))))))))))), ?_⟩)
  · obtain ⟨t, b, rfl, _⟩ := h
    rfl
  · obtain ⟨t, b, rfl, T0, hb, q⟩ := h
    obtain ⟨xt, ht0⟩ := T0.some
    walk_at "jrd"
    refine r_draw T0 (by decide) (by decide) (by omega) fun r1 H1 g1 l1 f1 T1 => ?_
    walk_at "jrd"
    have T1' := T1.same he
    refine r_draw T1' (by decide) (by decide) (by omega) fun r2 H2 g2 l2 f2 T2 => ?_
    obtain ⟨turn, htm, hti⟩ := pickI (is := [0, 3, 1000]) g2 l2
    have ht01 : 0 ≤ turn ∧ turn ≤ 1000 := by
      simp only [List.mem_cons, List.not_mem_nil, or_false] at htm
      omega
    have hti' : atI [V.int 0, .int 3, .int 1000] r2 = some (.int turn) := hti
    have np : p ≠ t := T1.ne hn
    walk_at "jrd"
    obtain ⟨m, hm⟩ : ∃ m : Nat, 30 + r1 = (m : Nat) := ⟨(30 + r1).toNat, by omega⟩
    rw [hm]
    refine ⟨m, rfl, by omega, fun nl H3 hn3 e3 hnl => ?_⟩
    have T3 := T2.same e3
    have nnl : nl ≠ t := T2.ne hn3
    have hnd := nms_nodup m (by omega)
    have hok : ∀ n ∈ nms m, IsNm n := fun n hn => by
      obtain ⟨j, hj, rfl⟩ := List.mem_map.mp hn
      exact nms_ok j (by have := List.mem_range.mp hj; omega)
    have hlen : (nms m).length = m := by unfold nms; simp
    generalize nms m = ns at *
    clear hp he f1 f2 T0 T1 T1' T2 ht0 hn hti hti' htm
    walk_at "jrd"
    refine lc_drawB (fun r => 0 ≤ r ∧ r < 1000000000) hnl nnl hnd (by omega) T3 (by omega) (fun n => ⟨rfl, rfl⟩) (fun n H' Q b' hn T' hb' k => ?_) fun sd H4 sp hB hn4 f4 T4 hsd => ?_
    · walk_at "jrd"
      refine r_I ⟨by decide, by decide, by decide⟩ ?_
      walk_at "jrd"
      exact r_draw T' (by decide) (by decide) (by omega) fun r H2 g l f T => k r H2 ⟨g, l⟩ f T
    have hnl4 : H4 nl = _ := f4 _ _ hnl (by simpa using nnl)
    have nsd : sd ≠ t := T3.ne hn4
    clear hnl f4 T3 e3 hn3 hn4
    walk_at "jrd"
    obtain ⟨x4, hx4⟩ := (T4.same he).some
    have T4' := T4.same he
    have hsd4 := he _ _ hsd
    have hnl5 := he _ _ hnl4
    clear hsd hnl4 T4 he hn
    refine r_make fun x dx H5 hn5 e5 hx => ?_
    have s5 : Same (rm [t] H'_1) H5 := fun b o h => e5 _ _ (rm_in _ _ _ _ h)
    have g5 : rm [t] H'_1 x = none := (rm_in _ _).free hn5
    have nxt : t ≠ x := ne_of_none hx4 hn5
    refine ⟨x, p_1, dx, ys, turn, rm [t] H'_1, rfl, hx, s5, g5, e5 _ _ hp, hy.nodup_iff.mpr hnd, fun n hn => hok n (hy.mem_iff.mp hn), by rw [hy.length_eq]; omega, fun H6 G6 pl ys2 f6 e6 g6 hys hpl6 lfs M6 => ⟨rfl, ?_⟩⟩
    have gt6 : G6 t = none := g6 t nxt (by rw [e5 _ _ hx4]; simp) (rm_no (by simp))
    have sd6 : G6 sd = _ := e6 _ _ ((rm_of (by simpa using nsd)).trans hsd4)
    have nl6 : G6 nl = _ := e6 _ _ ((rm_of (by simpa using nnl)).trans hnl5)
    have T6 : Tape H6 t _ := (T4'.same e5).stay fun o h => f6 _ _ h nxt
    have npl : t ≠ pl := fun z => by rw [← z, e5 _ _ hx4] at hpl6; cases hpl6
    have hys2 := hys.trans hy
    clear lfs hx hp T4' hx4 hsd4 hnl5 hn5 e5 s5 g5 nxt f6 e6 g6 hpl6 hys hy hs
    walk_at "jrd"
    have e63 := he.trans he_1
    have A6 : CmAt K G6 H'_3 t x pl p_2 nl sd turn sp ns ([] ++ [⟨ys2, [], 0⟩]) [] (b + 1 + 1 + ns.length) := by
      obtain ⟨as, hpl, _, _⟩ := M6.past
      exact ⟨M6.same e63, sd6, nl6, T6.same e63, ⟨[], he_1 _ _ hp, Tups.nil⟩, gt6, M6.sub.free hn, npl, (T6.ne hn).symm, ne_of_none hpl hn⟩
    have P0 : CmP sp turn ns ⟨ys2, [], 0⟩ [] := ⟨hys2, rfl, rfl, ⟨by simp, by simp⟩, by simp⟩
    have np3 : p_3 ≠ t := (T6.same he).ne hn_1
    refine r_draw A6.tape (by decide) (by decide) (by omega) fun r4 H7 g4 l4 f7 T7 => ?_
    obtain ⟨nr, hnr, hnri⟩ := pickI (is := [3, (m : Int)]) g4 l4
    have hnrb : 0 < nr ∧ nr ≤ 41 := by
      simp only [List.mem_cons, List.not_mem_nil, or_false] at hnr
      omega
    have hnri' : atI [V.int 3, .int (m : Nat)] r4 = some (.int nr) := hnri
    have A7 := A6.draw f7 T7
    have hnear := f7 _ _ hp_1 np3
    generalize p_2 = rl at *
    clear hp hp_1 he he_1 e63 A6 f7 T7 M6 T6 hn hn_1 gt6 sd6 nl6
    walk_at "jrd"
    refine r_rng1 (by decide) (by decide) ?_
    clear hnear
    refine loop_range (fun i σ H2 => ∃ (G : Hp) (Ss : List SD) (D : SD) (rs : List (Str × Str × Int)) (b' : Nat) (v5 v9 v10 v11 v12 v13 v14 v15 v16 v17 v18 : Option V), σ = [some (.ref t), some (.int (m : Nat)), some (.int turn), some (.ref nl), some (.ref sd), v5, some (.ref x), some (.ref rl), some (.int nr), v9, v10, v11, v12, v13, v14, v15, v16, v17, v18] ∧
      CmAt K G H2 t x pl rl nl sd turn sp ns (Ss ++ [D]) rs b' ∧ CmP sp turn ns D rs ∧ rs.length = i ∧ Ss.length = i ∧ b' ≤ 1000 + 10 * i)
      ⟨G6, [], _, _, _, _, _, _, _, _, _, _, _, _, _, _, rfl, A7, P0, rfl, rfl, by omega⟩ ?_ ?_
    · clear A7 P0 H6 G6 hys2
      rintro i σ H2 hi ⟨G, Ss, D, rs, b', v5, v9, v10, v11, v12, v13, v14, v15, v16, v17, v18, rfl, A, PP, hri, hSi, hb'⟩
      have hi : i < 140 := hi
      have ok := A.mesh.lastOk
      have hnl := A.mesh.sub _ _ A.nlv
      refine w_gname ?_
      rw [show (0 : Int) + (i : Int) = (i : Nat) by omega]
      refine w_seqK (fun σ H3 => (∃ o p' v5 v12 v13 v14 v15 v16 v17 v18, σ = [some (.ref t), some (.int (m : Nat)), some (.int turn), some (.ref nl), some (.ref sd), v5, some (.ref x), some (.ref rl), some (.int nr), some (.int (i : Nat)), some (.str o), some (.str p'), v12, v13, v14, v15, v16, v17, v18] ∧ ((i + 1 < ns.length ∧ o ∈ ns ∧ p' ∈ ns ∧ posIn ns o = i ∧ posIn ns p' = i + 1) ∨ (¬ i + 1 < ns.length ∧ o = "" ∧ p' = ""))) ∧ Same H2 H3) ?_ ?_
      · rintro σ H3 ⟨⟨o, p', v5, v12, v13, v14, v15, v16, v17, v18, rfl, hop⟩, e3⟩
        have A3 := A.same e3
        have hnl3 := e3 _ _ hnl
        clear hnl A e3
        refine w_seqK (fun σ H5 => ∃ o p' b5 v5 v12 v13 v14 v15 v16 v17 v18, σ = [some (.ref t), some (.int (m : Nat)), some (.int turn), some (.ref nl), some (.ref sd), v5, some (.ref x), some (.ref rl), some (.int nr), some (.int (i : Nat)), some (.str o), some (.str p'), v12, v13, v14, v15, v16, v17, v18] ∧ CmAt K G H5 t x pl rl nl sd turn sp ns (Ss ++ [D]) rs b5 ∧ b5 ≤ b' + 2 ∧ o ∈ ns ∧ p' ∈ ns ∧ (i + 1 < ns.length → posIn ns o = i ∧ posIn ns p' = i + 1)) ?_ ?_
        · clear A3 hnl3 hop
          rintro σ H5 ⟨o, p', b5, v5, v12, v13, v14, v15, v16, v17, v18, rfl, A5, hb5, ho, hp', hlk⟩
          refine w_seqK (fun σ H7 => ∃ o p' b7 v5 v12 v13 v14 v15 v16 v17 v18, σ = [some (.ref t), some (.int (m : Nat)), some (.int turn), some (.ref nl), some (.ref sd), v5, some (.ref x), some (.ref rl), some (.int nr), some (.int (i : Nat)), some (.str o), some (.str p'), v12, v13, v14, v15, v16, v17, v18] ∧ CmAt K G H7 t x pl rl nl sd turn sp ns (Ss ++ [D]) rs b7 ∧ b7 ≤ b' + 3 ∧ o ∈ ns ∧ p' ∈ ns ∧ (i + 1 < ns.length → (posIn ns o = i ∧ posIn ns p' = i + 1) ∨ (posIn ns o = i + 1 ∧ posIn ns p' = i))) ?_ ?_
          · clear A5 hlk ho hp'
            rintro σ H7 ⟨o, p', b7, v5, v12, v13, v14, v15, v16, v17, v18, rfl, A7, hb7, ho, hp', hlk⟩
            obtain ⟨ws0, hrl0, _⟩ := A7.rws
            walk_at "jrd"
            refine ⟨t, sd, turn, o, p', _, ns, sp, rfl, A7.tape, by omega, A7.mesh.sub _ _ A7.sdv, ho, hp', ht01.1, ht01.2, fun d H8 d0 d1 f8 T8 => ?_⟩
            have A8 := A7.draw f8 T8
            obtain ⟨ws, hrl, trw⟩ := A8.rws
            have lws := trw.1
            have hst : (sp p' - sp o + turn * d - (sp p' - sp o)) % turn = 0 := by
              rw [show sp p' - sp o + turn * d - (sp p' - sp o) = turn * d by omega]
              exact Int.mul_emod_right _ _
            have htd : -2000 ≤ turn * d ∧ turn * d ≤ 2000 := by
              have h1 := ht01.1
              have h2 := ht01.2
              rcases (show d = -2 ∨ d = -1 ∨ d = 0 ∨ d = 1 ∨ d = 2 by omega) with rfl | rfl | rfl | rfl | rfl <;> omega
            have hab : (sp p' - sp o + turn * d).natAbs ≤ 1000000000000 := by
              have h1 := hB o ho
              have h2 := hB p' hp'
              omega
            clear hrl0 f8 T8 A7
            walk_at "jrd"
            have tt : TupS _ H'_5 := Fr1.tups hf (he _ _ hrl) (by intro xs z; cases z)
            have A9 := (A8.same he).rowsc hf hp_1 (Tups.snoc (x := (o, p', sp p' - sp o + turn * d)) ((trw.stay (Same.tups he)).stay tt) (tt _ _ hp))
            have hpx := tt _ _ hp
            obtain ⟨dx9, fs9, m1, m2, _, _⟩ := A9.mesh.ins
            have k9 := A9.mesh.sub _ _ m1
            have hgi : (ws ++ [V.ref p_4])[i]? = some (V.ref p_4) := by
              rw [List.getElem?_append_right (by omega)]
              simp [lws, hri]
            clear tt hf he hp A8 hrl trw hn
            walk_at "jrd"
            have hco := PP.co
            refine ⟨x, pl, o, p', _, turn, Ss, D, G, sp, rfl, A9.mesh, PP.nm.mem_iff.mpr ho, PP.nm.mem_iff.mpr hp', PP.right, ht01.1, hst, by omega, by omega, fun q10 H10 G10 f10 g10 M10 h10 => ?_⟩
            have A10 := A9.meshc f10 g10 M10
            have hdue := PP.due (by omega) ho hp' (by rw [hri]; exact hlk)
            have ek : (if D.lab o = D.lab p' then ("known" : Str) else ("joined" : Str)) = (if ((i : Nat) : Int) < ((m : Nat) : Int) - 1 then ("joined" : Str) else ("known" : Str)) := by
              by_cases z : i + 1 < ns.length
              · rw [if_neg (fun e => (hdue.mp e) (by omega)), if_pos (by omega)]
              · rw [if_pos (hdue.mpr (by omega)), if_neg (by omega)]
            rw [ek, hco, hri] at h10
            have fd : ∀ v ∈ [V.str (if ((i : Nat) : Int) < ((m : Nat) : Int) - 1 then ("joined" : Str) else ("known" : Str)), V.int (i : Nat)], flV v = true := by
              intro v hv
              simp only [List.mem_cons, List.not_mem_nil, or_false] at hv
              rcases hv with rfl | rfl
              · split <;> decide +kernel
              · rfl
            clear k9 hpx
            walk_at "jrd"
            refine ite_tC ?_
            walk_at "jrd"
            refine r_neSame (dp_tup (he _ _ h10) fd) (dp_tup hp fd) (ly_tup fd) (by decide) ?_
            walk_at "jrd"
            refine ite_F rfl ?_
            walk_at "jrd"
            exact ⟨G10, Ss ++ [D], D.more (o, p', sp p' - sp o + turn * d), rs ++ [(o, p', sp p' - sp o + turn * d)], _, _, _, _, _, _, _, _, _, _, _, _, rfl, A10.same he, PP.next ⟨ho, hp'⟩ (by rw [hri]; exact hlk) ⟨hst, hab⟩, by simp [hri], by simp [hSi], by omega⟩
          · intro key3
            walk_at "jrd"
            refine r_draw A5.tape (by decide) (by decide) (by omega) fun r6 H6 g6 l6 f6 T6 => ?_
            have A6 := A5.draw f6 T6
            clear f6 T6 A5
            walk_at "jrd"
            refine ite_of (fun z => ?_) (fun z => ?_)
            · walk_at "jrd"
              exact key3 _ _ ⟨_, _, _, _, _, _, _, _, _, _, _, rfl, A6, by omega, hp', ho, fun h => .inr ⟨(hlk h).2, (hlk h).1⟩⟩
            · walk_at "jrd"
              exact key3 _ _ ⟨_, _, _, _, _, _, _, _, _, _, _, rfl, A6, by omega, ho, hp', fun h => .inl (hlk h)⟩
        · intro key2
          rcases hop with ⟨h1, ho, hp', po, pp⟩ | ⟨h1, rfl, rfl⟩
          · walk_at "jrd"
            refine ite_F (decide_eq_false fun z => ?_) ?_
            · have := (hok o ho).1
              rw [z] at this
              exact absurd this (by decide +kernel)
            walk_at "jrd"
            exact key2 _ _ ⟨_, _, _, _, _, _, _, _, _, _, _, rfl, A3, by omega, ho, hp', fun _ => ⟨po, pp⟩⟩
          · walk_at "jrd"
            refine ite_T (by decide +kernel) ?_
            walk_at "jrd"
            refine r_draw A3.tape (by omega) (by omega) (by omega) fun r6 H6 g6 l6 f6 T6 => ?_
            obtain ⟨o, ho, ho1, ho2⟩ := pick (ns := ns) g6 (by omega)
            have A6 := A3.draw f6 T6
            have hnl6 := A6.mesh.sub _ _ A6.nlv
            clear hnl3 f6 T6 A3
            walk_at "jrd"
            refine r_draw A6.tape (by omega) (by omega) (by omega) fun r7 H7 g7 l7 f7 T7 => ?_
            have A7 := A6.draw f7 T7
            have hnl7 := A7.mesh.sub _ _ A7.nlv
            clear hnl6 f7 T7 A6
            walk_at "jrd"
            obtain ⟨p', hp', hp1, hp2⟩ := pick (ns := ns) (r := if r6 + r7 < (m : Int) - 1 then r6 + r7 else (m : Int) - 1) (by split <;> omega) (by split <;> omega)
            walk_at "jrd"
            exact key2 _ _ ⟨_, _, _, _, _, _, _, _, _, _, _, rfl, A7, by omega, ho, hp', fun z => absurd z h1⟩
      · intro key1
        walk_at "jrd"
        refine ite_of (fun z => ?_) (fun z => ?_)
        · have hi1 : i + 1 < ns.length := by omega
          obtain ⟨o, ho⟩ : ∃ n, ns[i]? = some n := ⟨_, List.getElem?_eq_getElem (by omega)⟩
          obtain ⟨p', hp'⟩ : ∃ n, ns[i + 1]? = some n := ⟨_, List.getElem?_eq_getElem hi1⟩
          have a1 : (ns.map V.str)[i]? = some (.str o) := by rw [List.getElem?_map, ho]; rfl
          have a2 : atI (ns.map V.str) ((i : Int) + 1) = some (.str p') := atI_nat (xs := ns.map V.str) (j := i + 1) (v := V.str p') (by rw [List.getElem?_map, hp']; rfl)
          walk_at "jrd"
          exact key1 _ _ ⟨⟨o, p', _, _, _, _, _, _, _, _, rfl, .inl ⟨hi1, List.mem_of_getElem? ho, List.mem_of_getElem? hp', posIn_get hnd ho, posIn_get hnd hp'⟩⟩, he⟩
        · walk_at "jrd"
          exact key1 _ _ ⟨⟨_, _, _, _, _, _, _, _, _, _, rfl, .inr ⟨by omega, rfl, rfl⟩⟩, he⟩
    · clear A7 P0 hys2
      rintro σ H2 ⟨G, Ss, D, rs, b', v5, v9, v10, v11, v12, v13, v14, v15, v16, v17, v18, rfl, A, PP, hri, hSi, hb'⟩
      have hri : rs.length = 140 := hri
      have hSi : Ss.length = 140 := hSi
      have hb' : b' ≤ 3000 := by have h140 : Int.toNat 140 = 140 := rfl; omega
      have ok := A.mesh.lastOk
      have C : ChainD ns rs D := ⟨PP.P, hnd, by omega, by omega, PP.rows, ok⟩
      obtain ⟨n0, hn0⟩ : ∃ n, ns[0]? = some n := ⟨_, List.getElem?_eq_getElem (by omega)⟩
      obtain ⟨nz, hnz⟩ : ∃ n, ns[ns.length - 1]? = some n := ⟨_, List.getElem?_eq_getElem (by omega)⟩
      have p0 := posIn_get hnd hn0
      have pz := posIn_get hnd hnz
      have m0 := List.mem_of_getElem? hn0
      have mz := List.mem_of_getElem? hnz
      have a0 : atI (ns.map V.str) 0 = some (.str n0) := atI_nat (j := 0) (by rw [List.getElem?_map, hn0]; rfl)
      have az : atI (ns.map V.str) (-1) = some (.str nz) := atI_end (by rw [List.length_map, List.getElem?_map, hnz]; rfl)
      have hnl := A.mesh.sub _ _ A.nlv
      obtain ⟨dx9, fs9, j1, j2, _, _⟩ := A.mesh.ins
      have k1 := A.mesh.sub _ _ j1
      walk_at "jrd"
      refine ⟨x, pl, n0, nz, turn, Ss, D, G, rfl, A.mesh, PP.nm.mem_iff.mpr m0, PP.nm.mem_iff.mpr mz, fun H3 L e3 g c => ⟨fun z => absurd (C.lab m0 mz) z, fun w a hw ha _ => ?_⟩⟩
      have hwz := C.way p0 g hw
      rw [pz] at hwz
      have A3 := A.same e3
      have hnl3 := e3 _ _ hnl
      have k3 := e3 _ _ k1
      obtain ⟨ws, hrl3, tr3⟩ := A3.rws
      clear hnl k1
      walk_at "jrd"
      rw [show ((m : Nat) : Int) - 1 = ((ns.length - 1 : Nat) : Int) by omega]
      refine ⟨rl, nl, ws, rs, ns, 0, ns.length - 1, rfl, hrl3, tr3, hnl3, by omega, by omega, by omega, by omega, fun w1 H4 hn4 e4 hw1 => ?_⟩
      rw [Nat.sub_zero] at hw1
      refine r_neWay (ha.same e4) (by rw [hwz]; exact hw1) ?_
      have A4 := A3.same e4
      have hnl4 := e4 _ _ hnl3
      have k4 := e4 _ _ k3
      clear hrl3 tr3 hnl3 k3 hw1 ha
      walk_at "jrd"
      refine ite_F rfl ?_
      walk_at "jrd"
      refine ⟨x, pl, nz, turn, Ss, D, G, rfl, A4.mesh, PP.nm.mem_iff.mpr mz, fun p5 H5 hn5 e5 h5 => ?_⟩
      have A5 := A4.same e5
      have hnl5 := e5 _ _ hnl4
      have hall : D.names.filter (fun m => D.lab nz = D.lab m) = D.names := List.filter_eq_self.mpr fun n hn => decide_eq_true (C.lab mz (PP.nm.mem_iff.mp hn))
      rw [hall] at h5
      clear hnl4 k4
      walk_at "jrd"
      have hys : ys_1 = D.names := sorted_uniq hs ok.srt (hy.trans PP.nm.symm)
      have flN := fl_strs' fun n hn => hok n (PP.nm.mem_iff.mp hn)
      rw [hys] at hp
      refine r_neSame (dp_lst (he _ _ h5) flN) (dp_lst hp flN) (ly_lst flN) (by decide) ?_
      have A6 := A5.same he
      have k6 := A6.mesh.sub _ _ j1
      have hnl6 := A6.mesh.sub _ _ A6.nlv
      clear hnl5 hp he h5
      walk_at "jrd"
      refine ite_F rfl ?_
      walk_at "jrd"
      refine ⟨x, pl, n0, nz, turn, Ss, D, G, sp, rfl, A6.mesh, PP.nm.mem_iff.mpr m0, PP.nm.mem_iff.mpr mz, C.lab m0 mz, PP.right, ht01.1, fun H7 e7 => ?_⟩
      have A7 := A6.same e7
      have hsd7 := A7.mesh.sub _ _ A7.sdv
      have k7 := e7 _ _ k6
      have hnl7 := e7 _ _ hnl6
      clear k6 hnl6
      walk_at "jrd"
      refine ⟨turn, sp nz - sp n0, rfl, ?_⟩
      walk_at "jrd"
      refine ite_F (by simp) ?_
      walk_at "jrd"
      have hlt := numS_len (i := turn) (by omega)
      have hte : ("turn " : Str).length = 5 := by decide +kernel
      have hne' : ("name " : Str).length = 5 := by decide +kernel
      refine ⟨_, rfl, log_abs (by omega), ?_⟩
      show jAddS (.str "turn ") (.str (numS turn)) H7 _
      refine j_addS (sz _ (by omega)) ?_
      walk_at "jrd"
      have hnl8 := he _ _ hnl7
      refine lc_M [] walk_list (fun H' f => SqL.of (frM_nil f _ _ hnl8)) (by rw [List.length_map]; omega) (by simp) (fun i acc H' => acc = ((ns.take i).map nameRow).map V.str) rfl (fun i acc H1 H2 p t m => p) ?_ ?_
      · rintro i y acc H9 H9' KY KN hi rfl f9 ⟨rfl, hy⟩ hacc hY hN
        rw [List.getElem?_map, Option.map_eq_some_iff] at hy
        obtain ⟨n, hn, rfl⟩ := hy
        have hnm := hok n (List.mem_of_getElem? hn)
        rw [take_more hn, List.map_append, List.map_append] at hY
        walk_at "jrd"
        refine ⟨rfl, ?_⟩
        walk_at "jrd"
        refine ite_T rfl ?_
        walk_at "jrd"
        refine j_addS (sz _ (by have := nm_len hnm; omega)) ?_
        exact hY _ _ (FrM.refl _ _) rfl
      · rintro acc lb H9 hD9 f9 hlb rfl _
        rw [List.length_map, List.take_length] at hlb
        have e9 := frM_nil f9
        have hp9 := e9 _ _ hp
        have A9 := (A7.same he).same e9
        clear f9 e9 hp he hnl7 hnl8 k7 hsd7
        walk_at "jrd"
        have hnl1 : ("\n" : Str).length = 1 := by decide +kernel
        have hsum := sum_le (l := turnRow turn :: ns.map nameRow) (n := 49) fun x hx => by
          rcases List.mem_cons.mp hx with rfl | hx
          · unfold turnRow; rw [str_len_app]; omega
          · obtain ⟨n, h1, rfl⟩ := List.mem_map.mp hx
            unfold nameRow; rw [str_len_app]
            have := nm_len (hok n h1); omega
        have hl49 : (turnRow turn :: ns.map nameRow).length = ns.length + 1 := by simp
        rw [hl49] at hsum
        refine j_join (ys := turnRow turn :: ns.map nameRow) hp (by rw [hnl1, hl49]; omega) ?_
        have et0 : Txt.join ("\n" : Str) (turnRow turn :: ns.map nameRow) = txtOf turn ns (rs.take 0) := by unfold txtOf; simp
        rw [et0]
        have A10 := A9.same he
        obtain ⟨ws9, hrl9, tr9⟩ := A10.rws
        have lw9 := tr9.1
        have rsok : ∀ r ∈ rs, IsNm r.1 ∧ IsNm r.2.1 ∧ r.2.2.natAbs ≤ 1000000000000 := fun r hr => ⟨hok _ (PP.P.inn r hr).1, hok _ (PP.P.inn r hr).2, (PP.st r hr).2⟩
        clear hp he A9 hp9 hlb
        walk_at "jrd"
        have ecut : cutV ws9 none (some (((m : Nat) : Int) - 1)) = ws9.take (ns.length - 1) := by
          have := cutV_upto ws9 (ns.length - 1)
          rw [show ((ns.length - 1 : Nat) : Int) = ((m : Nat) : Int) - 1 by omega] at this
          exact this
        rw [ecut] at hp
        have A11 := A10.same he
        have tr11 := (tr9.stay (Same.tups he)).take (ns.length - 1)
        clear hrl9 he A10
        have jl : ("\njoin " : Str).length = 6 := by decide +kernel
        have sl1 : (" " : Str).length = 1 := by decide +kernel
        refine loop_list (xs := ws9.take (ns.length - 1)) (fun i σ H12 => H12 = H'_7 ∧ ∃ v5 v9 v10 v11 v12 v16 v17 v18, σ = [some (.ref t), some (.int (m : Nat)), some (.int turn), some (.ref nl), some (.ref sd), v5, some (.ref x), some (.ref rl), some (.int nr), v9, v10, v11, v12, some (.str n0), some (.str nz), some (.str (txtOf turn ns (rs.take i))), v16, v17, v18])
          ⟨rfl, _, _, _, _, _, _, _, _, rfl⟩ (fun i σ H12 _ p => p.1 ▸ hp) ?_ ?_
        · rintro i y σ H12 hi ⟨rfl, v5, v9, v10, v11, v12, v16, v17, v18, rfl⟩
          obtain ⟨r, tj, hr, rfl, htj⟩ := tr11.2 i y hi
          have hr2 : rs[i]? = some r := by
            rw [List.getElem?_take] at hr
            split at hr
            · exact hr
            · cases hr
          have hil := (List.getElem?_eq_some_iff.mp hr2).1
          obtain ⟨k1, k2, k3⟩ := rsok r (List.mem_of_getElem? hr2)
          have tl1 := txt_len (t := turn) (ns := ns) (rs := rs.take i) (by omega) hok (fun q hq => rsok q (List.mem_of_mem_take hq))
          rw [List.length_take] at tl1
          have q1 := nm_len k1
          have q2 := nm_len k2
          have q3 := numS_len k3
          have hsn : txtOf turn ns (rs.take (i + 1)) = (((((txtOf turn ns (rs.take i) ++ ("\njoin " : Str)) ++ r.1) ++ (" " : Str)) ++ r.2.1) ++ (" " : Str)) ++ numS r.2.2 := by
            rw [take_more hr2, txt_snoc]
          rw [hsn]
          unfold encR at htj
          refine w_gtup (r_unp htj rfl (w_gcons (w_gname (w_gcons (w_gname (w_gcons (w_gname (w_gnil ?_))))))))
          walk_at "jrd"
          generalize txtOf turn ns (rs.take i) = tx at *
          refine j_addS (sz _ (by omega)) ?_
          walk_at "jrd"
          refine j_addS (sz _ (by simp only [str_len_app]; omega)) ?_
          walk_at "jrd"
          refine j_addS (sz _ (by simp only [str_len_app]; omega)) ?_
          walk_at "jrd"
          refine j_addS (sz _ (by simp only [str_len_app]; omega)) ?_
          walk_at "jrd"
          refine j_addS (sz _ (by simp only [str_len_app]; omega)) ?_
          walk_at "jrd"
          refine ⟨_, rfl, log_abs k3, ?_⟩
          show jAddS (.str _) (.str (numS r.2.2)) _ _
          refine j_addS (sz _ (by simp only [str_len_app]; omega)) ?_
          exact w_gname ⟨rfl, _, _, _, _, _, _, _, _, rfl⟩
        · rintro σ H12 ⟨rfl, v5, v9, v10, v11, v12, v16, v17, v18, rfl⟩
          have hnl11 := A11.mesh.sub _ _ A11.nlv
          obtain ⟨ws11, hrl11, tr11'⟩ := A11.rws
          have em : (ws9.take (ns.length - 1)).length = ns.length - 1 := by rw [List.length_take]; omega
          rw [em]
          have TO : TxtOk turn ns (rs.take (ns.length - 1)) n0 nz := ⟨ht01.1, ht01.2, hok, hnd, by omega, by rw [List.length_take]; omega, fun r hr => PP.P.inn r (List.mem_of_mem_take hr), fun r hr => (PP.st r (List.mem_of_mem_take hr)).2, m0, mz, fun z => by rw [z, pz] at p0; omega⟩
          have tl1 := txt_len (t := turn) (ns := ns) (rs := rs.take (ns.length - 1)) (by omega) hok (fun q hq => rsok q (List.mem_of_mem_take hq))
          rw [List.length_take] at tl1
          clear hp tr9 tr11
          generalize htx : txtOf turn ns (rs.take (ns.length - 1)) = tx at *
          walk_at "jrd"
          rw [show ((m : Nat) : Int) - 1 = ((ns.length - 1 : Nat) : Int) by omega]
          refine ⟨rl, nl, ws11, rs, ns, 0, ns.length - 1, rfl, hrl11, tr11', hnl11, by omega, by omega, by omega, by omega, fun w2 H13 hn13 e13 hw2 => ?_⟩
          rw [Nat.sub_zero] at hw2
          obtain ⟨us, hus, tus⟩ := hw2
          have lus := tus.1
          have lch : (chainW rs ns 0 (ns.length - 1)).length = ns.length - 1 := by unfold chainW; simp
          have ksm : ∀ p ∈ chainW rs ns 0 (ns.length - 1), p.1 < 400 := fun p hp => by
            unfold chainW at hp
            obtain ⟨k, hk, rfl⟩ := List.mem_map.mp hp
            rw [List.mem_range'_1] at hk
            show k < 400
            omega
          refine r_iterT hus ?_
          refine lc_M [] walk_tup (fun H' f => SqT.of (frM_nil f _ _ hus)) (by omega) (by simp) (fun i acc H' => acc = (((chainW rs ns 0 (ns.length - 1)).take i).map shP).map V.str) rfl (fun i acc H1 H2 p t m => p) ?_ ?_
          · rintro i y acc H14 H14' KY KN hi rfl f14 ⟨rfl, hy⟩ hacc hY hN
            have e14 := frM_nil f14
            obtain ⟨⟨k, s'⟩, tt, hpp, rfl, htt⟩ := (tus.stay (Same.tups e14)).2 i y hy
            have hk4 : k < 400 := ksm _ (List.mem_of_getElem? hpp)
            have nlk := num_len k hk4
            rw [take_more hpp, List.map_append, List.map_append] at hY
            unfold encP at htt
            clear f14
            walk_at "jrd"
            refine ⟨rfl, ?_⟩
            walk_at "jrd"
            refine ite_T rfl ?_
            walk_at "jrd"
            refine ⟨_, rfl, log_small hk4, ?_⟩
            walk_at "jrd"
            refine ite_tC ?_
            have h2 : (if s' = 1 then ("+" : Str) else ("-" : Str)).length = 1 := by split <;> decide +kernel
            refine j_addS (sz _ (by omega)) ?_
            exact hY _ _ (FrM.refl _ _) rfl
          · rintro acc lb2 H14 hD14 f14 hlb2 rfl _
            rw [List.take_of_length_le (by omega)] at hlb2
            have e1114 := e13.trans (frM_nil f14)
            have A14 := A11.same e1114
            have hls := sum_le (l := (chainW rs ns 0 (ns.length - 1)).map shP) (n := 4) fun x hx => by
              obtain ⟨p, hp, rfl⟩ := List.mem_map.mp hx
              exact shP_len (ksm p hp)
            rw [List.length_map] at hls
            clear f14 hus hrl11 hnl11
            refine j_join hlb2 (by rw [List.length_map, sl1]; omega) ?_
            have q1 := nm_len (hok _ m0)
            have q2 := nm_len (hok _ mz)
            have wl1 : ("\nway " : Str).length = 5 := by decide +kernel
            walk_at "jrd"
            refine j_addS (sz _ (by omega)) ?_
            walk_at "jrd"
            refine j_addS (sz _ (by simp only [str_len_app]; omega)) ?_
            walk_at "jrd"
            refine j_addS (sz _ (by simp only [str_len_app]; omega)) ?_
            walk_at "jrd"
            refine j_addS (sz _ (by simp only [str_len_app]; omega)) ?_
            walk_at "jrd"
            refine ⟨_, turn, ns, rs.take (ns.length - 1), n0, nz, sp, chainW rs ns 0 (ns.length - 1), rfl, by rw [← htx, txt_way]; exact split_rows TO, by simp only [str_len_app]; omega, TO, fun r hr => (PP.st r (List.mem_of_mem_take hr)).1, fun D' L' w' ok' hp' hr' => ?_, fun pz' zs H15 hn15 e15 h15 => ?_⟩
            · have C' : ChainD ns (rs.take (ns.length - 1)) D' := ⟨PP.P.take _, hnd, by rw [List.length_take]; omega, by omega, hr', ok'⟩
              refine ⟨C'.lab m0 mz, fun g' _ hw' => ?_⟩
              have := C'.way p0 g' hw'
              rw [pz, chainW_take (by omega)] at this
              exact this
            have A15 := A14.same e15
            walk_at "jrd"
            refine ite_F (by unfold shWay; simp) ?_
            walk_at "jrd"
            refine r_draw A15.tape (by omega) (by omega) (by omega) fun r16 H16 g16 l16 f16 T16 => ?_
            have A16 := A15.draw f16 T16
            walk_at "jrd"
            refine r_draw A16.tape (by omega) (by omega) (by omega) fun r17 H17 g17 l17 f17 T17 => ?_
            have A17 := A16.draw f17 T17
            obtain ⟨a1, rfl⟩ := Int.eq_ofNat_of_zero_le g16
            obtain ⟨a2, rfl⟩ := Int.eq_ofNat_of_zero_le g17
            walk_at "jrd"
            obtain ⟨ws17, hrl17, tr17⟩ := A17.rws
            have sub : Same G (rm [t, pl] H17) := rm_sub A17.mesh.sub fun q hq => by
              simp only [List.mem_cons, List.not_mem_nil, or_false] at hq
              rcases hq with rfl | rfl
              · exact A17.gt
              · exact A17.mesh.gpl
            obtain ⟨xt17, ht17⟩ := A17.tape.some
            obtain ⟨as17, hpl17, _, _⟩ := A17.mesh.past
            have tk : TupS H17 (rm [t, pl] H17) := fun q xs hq => by
              rw [rm_of (by
                have n1 := ne_of hq ht17 (by intro z; cases z)
                have n2 := ne_of hq hpl17 (by intro z; cases z)
                simp [n1, n2])]
              exact hq
            refine ⟨x, pl, rl, nl, ws17, rs, ns, a1, a2 + 1, turn, Ss, D, rm [t, pl] H17, ?_, A17.mesh.regh sub (rm_in _ _) (rm_no (by simp)), (rm_of (by simp [A17.tr.symm, A17.pr.symm])).trans hrl17, tr17.stay tk, sub _ _ A17.nlv, C, PP.nm, hri, by omega, by omega, by omega, hok, by omega, fun H18 => ?_⟩
            · rw [show (1 : Int) + ((a2 : Nat) : Int) = ((a2 + 1 : Nat) : Int) by omega]
            · walk_at "jrd"
              exact q _
end
section
variable {P : Program} {w : World} {K : PySem.W.Frag} {mg : Str → Option Value} {base : Heap}
/-- what was frozen stays -/
def FrzK (H H' : Hp) : Prop := ∀ b o u, H b = some (.frz o u) → H' b = some (.frz o u)
/-- a promise with the frozen part kept -/
def spZ (sp : Sp) : Sp := fun vs H Q E => sp vs H (fun v H' => FrzK H H' → Q v H') E
theorem OkF.frz {k : Nat} {f : Addr} {ps : List Str} {sp : Sp} (F : OkF P w K mg base k f ps sp) : OkF P w K mg base k f ps (spZ sp) := by
  obtain ⟨fd, F, b, kp⟩ := F
  refine ⟨fd, ⟨fun vs H Q E h => F.len _ _ _ _ h, fun A outer s H args us vs Q E hr he hb hv hs => ?_⟩, b, kp⟩
  refine codeAny_mono (F.run A outer s H args us vs _ E hr he hb hv hs) fun r s' h => ?_
  cases r with
  | error e => exact h
  | ok fl =>
    cases fl with
    | next => exact h
    | brk => exact h
    | cont => exact h
    | ret u =>
      obtain ⟨v, H', os, bare, un, hok', r', q⟩ := h
      exact ⟨v, H', os, bare, un, hok', r', q un.frzs⟩
/-- one of the three parts of the law -/
def spPart : Sp := fun vs H Q _ => ∃ (t : Addr) (b : Nat), vs = [.ref t] ∧ Tape H t b ∧ b ≤ 100 ∧ ∀ H', FrzK H H' → Q (.bl true) H'
theorem OkF.imp {k : Nat} {f : Addr} {ps : List Str} {sp sp' : Sp} (F : OkF P w K mg base k f ps sp) (h : ∀ vs H Q E, sp' vs H Q E → sp vs H Q E) : OkF P w K mg base k f ps sp' := by
  obtain ⟨fd, F, b, kp⟩ := F
  exact ⟨fd, F.imp h, b, kp⟩
theorem part_ok : ∀ vs H Q E, spPart vs H Q E → spZ (fun vs H Q _ => ∃ (t : Addr) (b : Nat), vs = [.ref t] ∧ Tape H t b ∧ b ≤ 100 ∧ ∀ H', Q (.bl true) H') vs H Q E := fun _ _ _ _ ⟨t, b, e, T, hb, q⟩ => ⟨t, b, e, T, hb, fun H' z => q H' z⟩
theorem okz_law_stack_right (T : Txt w K mg) : OkF P w K mg base 6 (gA K "_law_stack_right") ["_law_tape_here"] spPart := ((ok_law_stack_right (P := P) (base := base) T).frz).imp part_ok
theorem okz_law_mesh_right (T : Txt w K mg) : OkF P w K mg base 7 (gA K "_law_mesh_right") ["_law_tape_here"] spPart := ((ok_law_mesh_right (P := P) (base := base) T).frz).imp part_ok
theorem okz_law_chain_right (T : Txt w K mg) : OkF P w K mg base 9 (gA K "_law_chain_right") ["_law_tape_here"] spPart := ((ok_law_chain_right (P := P) (base := base) T).frz).imp part_ok
/-- the script, known or of the top -/
def Scr (K : PySem.W.Frag) (H : Hp) (s : Addr) (xs : List V) : Prop :=
  (∃ o, H s = some (.frz o (.lst xs))) ∨ ∃ (o : Obj) (its : Array Value) (n : Nat), K.lookup s = some o ∧ o.cls = .type "list" ∧ o.dict = none ∧ o.data = .seq its n ∧ its.size ≤ sizeLine ∧ Vals xs its.toList
theorem Scr.sq {H : Hp} {s : Addr} {xs : List V} (h : Scr K H s xs) : SqL K H s xs := h.elim (fun ⟨o, z⟩ => .inl (.inr ⟨o, z⟩)) .inr
theorem Scr.of {H : Hp} {s : Addr} {xs : List V} (O : Only H) (h : SqL K H s xs) : Scr K H s xs := by
  rcases h with h | h
  · rcases h with h | h
    · rcases O s with z | ⟨o, ys, z⟩
      · rw [h] at z; cases z
      · rw [h] at z; cases z
    · exact .inl h
  · exact .inr h
theorem Scr.kept {H H' : Hp} {s : Addr} {xs : List V} (h : Scr K H s xs) (f : FrzK H H') : Scr K H' s xs := h.imp (fun ⟨o, z⟩ => ⟨o, f _ _ _ z⟩) id
theorem Same.frz {H H' : Hp} (e : Same H H') : FrzK H H' := fun _ _ _ h => e _ _ h
theorem FrzK.fr {H H' : Hp} {t : Addr} {xs : List V} (f : Fr1 t H H') (h : H t = some (.lst xs)) : FrzK H H' := fun b o u hb => f _ _ hb fun z => by subst z; rw [h] at hb; cases hb
def spLaw (K : PySem.W.Frag) : Sp := fun vs H Q _ => ∃ (s : Addr) (cells : List Int), vs = [.ref s] ∧ Scr K H s (cells.map V.int) ∧ cells.length ≤ 63 ∧ ∀ H', Q (.bl true) H'
theorem okFd {k : Nat} {f : Addr} {fd : FuncData} {ps N : List Str} {sp : Sp} {x qual : Str} {params : Arguments} {body : List Stmt} {scope : Scope}
    (F : FunD K x qual params body scope [] [] f fd) (S : FnScope N ps scope)
    (len : ∀ vs H Q E, sp vs H Q E → vs.length = ps.length)
    (hbody : ∀ (cdv : Value) (A : Around) (outer : List Env) (s : Shared) (H : Hp) (vs : List V) (Q : VK) (E : XK), Room k (A.deeper (PyProof.Rows.envOfC qual scope s.heap.objs.size f cdv)) → sp vs H Q E →
      ∃ t, PSs (cxOf CX0 P w K mg base N qual scope f cdv A outer s H E).nox body t ∧ t { nx := fun _ H' => Q .non H', rt := Q } (start N vs) H) : FnOk P w K mg base CX0 (k + 1) f fd ps sp := by
  refine F.ok S len fun cdv A outer s H vs Q E hr hs => ?_
  obtain ⟨t, p, q⟩ := hbody cdv A outer s H vs Q E hr hs
  exact ⟨t, p.nox, q⟩
abbrev N_law : List Str := ["_law_script", "_law_k", "_law_tape_here", "_law_way"]
theorem sc_law : FnScope N_law ["_law_script"] (defScope s_law) := ⟨rfl, rfl, rfl, by decide +kernel, rfl, by decide +kernel, by decide +kernel⟩
theorem ok_law {fd : FuncData} (F : FunD K "law" "law" (defArgs s_law) (defBody s_law) (defScope s_law) [] [] (gA K "law") fd) (T : Txt w K mg) : FnOk P w K mg base CX0 10 (gA K "law") fd ["_law_script"] (spLaw K) := by
  obtain ⟨fd_law_tape, c_law_tape⟩ := ok_law_tape (P := P) (base := base) T
  obtain ⟨fd_law_draw, c_law_draw⟩ := ok_law_draw (P := P) (base := base) T
  obtain ⟨fd_law_mesh_right, c_law_mesh_right⟩ := okz_law_mesh_right (P := P) (base := base) T
  obtain ⟨fd_law_stack_right, c_law_stack_right⟩ := okz_law_stack_right (P := P) (base := base) T
  obtain ⟨fd_law_chain_right, c_law_chain_right⟩ := okz_law_chain_right (P := P) (base := base) T
  refine okFd F sc_law (fun vs H Q E h => ?_) (fun cdv A outer s H vs Q E hr h => have hu := hu_of hr; ⟨_, (pss_cons (ps_for PassesOwn.never rfl (pi_range1 rfl (Tf_range T) (pa_cons (pe_callB (call_maxJ rfl) (by rfl) (Tf_max T) (by decide +kernel) (pa_cons pe_int (pa_cons (pe_callB (call_minJ rfl) (by rfl) (Tf_min T) (by decide +kernel) (pa_cons (pe_callB (call_lenJ K) (by rfl) (Tf_len T) (by decide +kernel) (pa_cons (pv 0) pa_nil)) (pa_cons pe_int pa_nil))) pa_nil))) pa_nil)) (pg_name (i := 1) sc_law.nd rfl (by first | exact Or.inl rfl | exact Or.inr rfl))
      (pss_cons (ps_set (i := 2) sc_law.nd rfl (by first | exact Or.inl rfl | exact Or.inr rfl) (pe_call c_law_tape.1 (hr.mono (by decide)) rfl (Tg_law_tape T) c_law_tape.2.2 c_law_tape.2.1 .nil pass0 (pa_cons (pv 0) (pa_cons (pv 1) pa_nil))))
      (pss_cons (ps_set (i := 3) sc_law.nd rfl (by first | exact Or.inl rfl | exact Or.inr rfl) (pe_call c_law_draw.1 (hr.mono (by decide)) rfl (Tg_law_draw T) c_law_draw.2.2 c_law_draw.2.1 .nil pass0 (pa_cons (pv 2) (pa_cons pe_int pa_nil))))
      (pss_cons (ps_if (PW.pt (pw_or (PW.pt (pw_and (pt_cmpR op_eq (pv 3) pe_int (nomark _)) (pw_and1 (pt_not (pt_val (pe_call c_law_stack_right.1 (hr.mono (by decide)) rfl (Tg_law_stack_right T) c_law_stack_right.2.2 c_law_stack_right.2.1 .nil pass0 (pa_cons (pv 2) pa_nil))))))) (pw_or1 (PW.pt (pw_and (pt_cmpR op_eq (pv 3) pe_int (nomark _)) (pw_and1 (pt_not (pt_val (pe_call c_law_mesh_right.1 (hr.mono (by decide)) rfl (Tg_law_mesh_right T) c_law_mesh_right.2.2 c_law_mesh_right.2.1 .nil pass0 (pa_cons (pv 2) pa_nil)))))))))) (pss_one (ps_ret pe_bl)) pss_nil)
      (pss_one (ps_if (PW.pt (pw_and (pt_cmpR op_eq (pv 3) pe_int (nomark _)) (pw_and1 (pt_not (pt_val (pe_call c_law_chain_right.1 (hr.mono (by decide)) rfl (Tg_law_chain_right T) c_law_chain_right.2.2 c_law_chain_right.2.1 .nil pass0 (pa_cons (pv 2) pa_nil))))))) (pss_one (ps_ret pe_bl)) pss_nil))))))
      (pss_one (ps_ret pe_bl))), ?_⟩)
  · obtain ⟨s, cells, rfl, _⟩ := h
    rfl
  · obtain ⟨s, cells, rfl, S, hl, q⟩ := h
    walk_at "jrd"
    refine ⟨s, _, rfl, .inl S.sq, ?_⟩
    walk_at "jrd"
    rw [List.length_map]
    refine r_rng1 (by split <;> (try split) <;> omega) (by split <;> (try split) <;> omega) ?_
    have hN : (if (if (3 : Int) < (cells.length : Int) then (3 : Int) else (cells.length : Int)) > 2 then (if (3 : Int) < (cells.length : Int) then (3 : Int) else (cells.length : Int)) else 2).toNat ≤ 3 := by
      split <;> (try split) <;> omega
    refine loop_range (fun i σ H2 => (∃ v1 v2 v3, σ = [some (.ref s), v1, v2, v3]) ∧ Scr K H2 s (cells.map V.int)) ⟨⟨_, _, _, rfl⟩, S⟩ ?_ ?_
    · rintro i σ H2 hi ⟨⟨v1, v2, v3, rfl⟩, S2⟩
      have hi3 := Nat.lt_of_lt_of_le hi hN
      clear hN hi S
      walk_at "jrd"
      rw [show (0 : Int) + (i : Int) = (i : Nat) by omega]
      refine ⟨s, cells, i, rfl, S2.sq, by omega, fun p H3 hn e T3 => ?_⟩
      have S3 := S2.kept (Same.frz e)
      walk_at "jrd"
      refine r_draw T3 (by decide) (by decide) (by omega) fun r H4 g4 l4 f4 T4 => ?_
      obtain ⟨xt, ht⟩ := T3.some
      have S4 := S3.kept (FrzK.fr f4 ht)
      clear S2 S3 e hn T3 ht f4
      obtain rfl | rfl | rfl : r = 0 ∨ r = 1 ∨ r = 2 := by omega
      · iterate 8 ((walk_at "jrd"); (try (with_reducible refine ite_T (by decide) ?_)); (try (with_reducible refine ite_F (by decide) ?_)))
        refine ⟨p, 1, rfl, T4, by decide, fun H5 fz => ?_⟩
        iterate 8 ((walk_at "jrd"); (try (with_reducible refine ite_T (by decide) ?_)); (try (with_reducible refine ite_F (by decide) ?_)))
        exact ⟨⟨_, _, _, rfl⟩, S4.kept fz⟩
      · iterate 8 ((walk_at "jrd"); (try (with_reducible refine ite_T (by decide) ?_)); (try (with_reducible refine ite_F (by decide) ?_)))
        refine ⟨p, 1, rfl, T4, by decide, fun H5 fz => ?_⟩
        iterate 8 ((walk_at "jrd"); (try (with_reducible refine ite_T (by decide) ?_)); (try (with_reducible refine ite_F (by decide) ?_)))
        exact ⟨⟨_, _, _, rfl⟩, S4.kept fz⟩
      · iterate 8 ((walk_at "jrd"); (try (with_reducible refine ite_T (by decide) ?_)); (try (with_reducible refine ite_F (by decide) ?_)))
        refine ⟨p, 1, rfl, T4, by decide, fun H5 fz => ?_⟩
        iterate 8 ((walk_at "jrd"); (try (with_reducible refine ite_T (by decide) ?_)); (try (with_reducible refine ite_F (by decide) ?_)))
        exact ⟨⟨_, _, _, rfl⟩, S4.kept fz⟩
    · rintro σ H2 ⟨⟨v1, v2, v3, rfl⟩, _⟩
      walk_at "jrd"
      exact q _
theorem law_end (T : Txt w K mg) : ∃ fd : FuncData, (∀ (s : Shared) (v : Value), BindsTo s fd ⟨[v], []⟩ [("_law_script", v)]) ∧ ∀ base : Heap, FnOk P w K mg base CX0 10 (gA K "law") fd ["_law_script"] (spLaw K) := by
  obtain ⟨fd, F⟩ := Td_law T
  have b := FunD.bindsA (ps := ["_law_script"]) F fun _ _ _ _ _ _ us hl => match us, hl with | [_], _ => rfl
  exact ⟨fd, fun s v => b s [v] rfl, fun base => ok_law F T⟩
end
end JB
set_option tactic.hygienic true
open PySem PySem.W PySem.Calls PyProof.Rows
theorem PySem.Challenge.cw_joinback_k76_whole_long_objects_holds : PySem.Challenge.rw_joinback_k76_whole_long_objects.Holds := by
  w_on; o_law
  refine HandSHeadRun.head_any (r := OpenLaw.row PySem.Challenge.rw_joinback_k76_whole_long_objects) (q := view (OpenLaw.row PySem.Challenge.rw_joinback_k76_whole_long_objects).prog [67]) (H := JB.hk) (ob := JB.ob) (M := 6000) (loose := JB.loose) (d := HandSHeadRun.topDef (OpenLaw.row PySem.Challenge.rw_joinback_k76_whole_long_objects).prog 67) (kwd := []) JB.ob_eq
    (by kernel_rfl) (fun s => by kernel_rfl) JB.run (by kernel_rfl) (by kernel_rfl) (by kernel_rfl) (by rfl) (by first | assumption | decide +kernel) (by decide +kernel) ⟨rfl, rfl, rfl, rfl, rfl, by decide +kernel⟩ ?hw ?hc
  case hw => w_witness2
  case hc =>
    refine L2.walk_ofE (l := PySem.Challenge.rw_joinback_k76_whole_long_objects) (n := 63) (k := 10) (x := "_law_script") (CX := L2.CX0) rfl (by decide) (by kernel_rfl) ⟨rfl, by decide, by decide⟩ ?F (fun _ _ _ _ z => z)
    intro w mg fa h Y G hmg0
    obtain ⟨K, KX, c, cx⟩ := Y
    have T : JB.Txt w K mg := ⟨c, cx, h, KX, G⟩
    have hmg : mg ("law" : PySem.Str) = some (.ref fa) := by
      have e : (HandSHeadRun.topDef (OpenLaw.row PySem.Challenge.rw_joinback_k76_whole_long_objects).prog 67).name = ("law" : PySem.Str) := by kernel_rfl
      rw [← e]
      exact hmg0
    have e := hmg.symm.trans (JB.Tg_law T)
    cases e
    obtain ⟨fd, hb, hF⟩ := JB.law_end (P := (PySem.Challenge.rw_joinback_k76_whole_long_objects).prog) T
    exact ⟨K, fd, JB.spLaw K, KX, hb, fun H a ns hl hO hS => ⟨a, ns, rfl, JB.Scr.of hO hS, hl, fun _ => rfl⟩, fun base _ _ => hF base⟩
