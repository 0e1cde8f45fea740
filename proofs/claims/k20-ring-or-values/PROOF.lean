import PyProof.Rows.All
import Wide.All
import OpenK.AllK
import Wide.FinOn
import HandS.ForMost
import HandS.Deep
import HandS.Style
import HandS.Conv
import HandS.Codes
import PySem.Challenge.RW_diesnon_k20_whole_ring_or_values
set_option Elab.async false
set_option linter.all false
set_option maxRecDepth 100000
set_option maxHeartbeats 8000000
/-! The mathematics of the law: tables of bounds, and the rounds that look for a ring. No program here. -/
namespace K20
structure Lit where
  a : Nat
  b : Nat
  c : Int

def Sat (x : Nat → Int) (L : List Lit) : Prop := ∀ e ∈ L, x e.a - x e.b ≤ e.c
def Feas (L : List Lit) : Prop := ∃ x, Sat x L

/-! ### tables -/
abbrev Tab := Nat → Nat → Option Int
def Ub (M : Tab) (p q : Nat) (s : Int) : Prop := ∃ m, M p q = some m ∧ m ≤ s
theorem Ub.mono {M : Tab} {p q : Nat} {s t : Int} (h : Ub M p q s) (l : s ≤ t) : Ub M p q t := by
  obtain ⟨m, e, k⟩ := h
  exact ⟨m, e, by omega⟩
structure Closed (M : Tab) (L : List Lit) : Prop where
  zero : ∀ p, Ub M p p 0
  tri : ∀ p q r s t, Ub M p q s → Ub M q r t → Ub M p r (s + t)
  lit : ∀ e ∈ L, Ub M e.a e.b e.c
structure Best (M : Tab) (L : List Lit) : Prop where
  diag : ∀ p, M p p = some 0
  tri : ∀ p q r s t, Ub M p q s → Ub M q r t → Ub M p r (s + t)
  lit : ∀ e ∈ L, Ub M e.a e.b e.c
  least : ∀ M', Closed M' L → ∀ p q m, M p q = some m → Ub M' p q m
theorem Best.closed {M : Tab} {L : List Lit} (h : Best M L) : Closed M L :=
  ⟨fun p => ⟨0, h.diag p, Int.le_refl _⟩, h.tri, h.lit⟩
theorem closed_of {x : Nat → Int} {L : List Lit} (h : Sat x L) : Closed (fun p q => some (x p - x q)) L := by
  refine ⟨fun p => ⟨_, rfl, by omega⟩, fun p q r s t hs ht => ?_, fun e he => ⟨_, rfl, h e he⟩⟩
  obtain ⟨m, e, k⟩ := hs
  obtain ⟨m', e', k'⟩ := ht
  have e := Option.some.inj e
  have e' := Option.some.inj e'
  exact ⟨_, rfl, by omega⟩
/-- values that satisfy the literals lie within the bounds -/
theorem Best.within {M : Tab} {L : List Lit} (h : Best M L) {x : Nat → Int} (hx : Sat x L) {p q : Nat} {m : Int} (e : M p q = some m) : x p - x q ≤ m := by
  obtain ⟨m', e', k⟩ := h.least _ (closed_of hx) p q m e
  have e' := Option.some.inj e'
  omega
theorem Best.same {M M' : Tab} {L L' : List Lit} (h : Best M L) (h' : Best M' L') (hl : ∀ e, e ∈ L ↔ e ∈ L') (p q : Nat) : M p q = M' p q := by
  have c1 : Closed M L' := ⟨h.closed.zero, h.tri, fun e he => h.lit e ((hl e).mpr he)⟩
  have c2 : Closed M' L := ⟨h'.closed.zero, h'.tri, fun e he => h'.lit e ((hl e).mp he)⟩
  cases e : M p q with
  | none =>
    cases e' : M' p q with
    | none => rfl
    | some m' =>
      obtain ⟨m, q1, _⟩ := h'.least _ c1 p q m' e'
      rw [e] at q1
      cases q1
  | some m =>
    obtain ⟨m', q1, l1⟩ := h.least _ c2 p q m e
    obtain ⟨m2, q2, l2⟩ := h'.least _ c1 p q m' q1
    rw [e] at q2
    cases q2
    rw [q1]
    have : m = m' := by omega
    rw [this]
def tab0 : Tab := fun p q => if p = q then some 0 else none
theorem best0 : Best tab0 [] := by
  refine ⟨fun p => by simp [tab0], fun p q r s t hs ht => ?_, fun e he => by simp at he, fun M' hM p q m e => ?_⟩
  · obtain ⟨m, e, k⟩ := hs
    obtain ⟨m', e', k'⟩ := ht
    unfold tab0 at e e'
    by_cases h1 : p = q
    · rw [if_pos h1] at e
      by_cases h2 : q = r
      · rw [if_pos h2] at e'
        have e := Option.some.inj e
        have e' := Option.some.inj e'
        exact ⟨0, by unfold tab0; rw [if_pos (h1.trans h2)], by omega⟩
      · rw [if_neg h2] at e'
        cases e'
    · rw [if_neg h1] at e
      cases e
  · unfold tab0 at e
    by_cases h1 : p = q
    · rw [if_pos h1] at e
      have e := Option.some.inj e
      subst h1
      rw [← e]
      exact hM.zero p
    · rw [if_neg h1] at e
      cases e
/-- first is less than second, where none is above all -/
def lessO : Option Int → Option Int → Bool
  | some x, some y => decide (x < y)
  | some _, none => true
  | none, _ => false
/-- a row led over a new literal: hd is what leads to its end -/
def lead (hd : Int) (row : Nat → Option Int) (aft : Nat → Option Int) : Nat → Option Int := fun q =>
  match aft q with
  | some y => if lessO (some (hd + y)) (row q) = true then some (hd + y) else row q
  | none => row q
/-- a row behind a new literal (a, b, c) -/
def rowT (M : Tab) (a b : Nat) (c : Int) (p : Nat) : Nat → Option Int :=
  match M p a with
  | none => M p
  | some x => if lessO (some (x + c)) (M p b) = true then lead (x + c) (M p) (M b) else M p
def addT (M : Tab) (a b : Nat) (c : Int) : Tab := fun p => rowT M a b c p
theorem lead_ub {hd : Int} {row aft : Nat → Option Int} {q : Nat} {s : Int} :
    (∃ m, lead hd row aft q = some m ∧ m ≤ s) ↔ (∃ m, row q = some m ∧ m ≤ s) ∨ (∃ y, aft q = some y ∧ hd + y ≤ s) := by
  unfold lead
  cases ea : aft q with
  | none => simp
  | some y =>
    cases er : row q with
    | none => simp [lessO]
    | some m =>
      simp only [lessO, decide_eq_true_eq]
      by_cases h : hd + y < m
      · rw [if_pos h]
        constructor
        · rintro ⟨m', e, l⟩
          have e := Option.some.inj e
          exact .inr ⟨y, rfl, by omega⟩
        · rintro (⟨m', e, l⟩ | ⟨y', e, l⟩)
          · have e := Option.some.inj e
            exact ⟨_, rfl, by omega⟩
          · have e := Option.some.inj e
            exact ⟨_, rfl, by omega⟩
      · rw [if_neg h]
        constructor
        · rintro ⟨m', e, l⟩
          exact .inl ⟨m', e, l⟩
        · rintro (⟨m', e, l⟩ | ⟨y', e, l⟩)
          · exact ⟨m', e, l⟩
          · have e := Option.some.inj e
            exact ⟨_, rfl, by omega⟩
/-- what the table says behind a new literal -/
theorem addT_ub {M : Tab} (tri : ∀ p q r s t, Ub M p q s → Ub M q r t → Ub M p r (s + t)) {a b : Nat} {c : Int} {p q : Nat} {s : Int} :
    Ub (addT M a b c) p q s ↔ Ub M p q s ∨ ∃ x y, M p a = some x ∧ M b q = some y ∧ x + c + y ≤ s := by
  unfold Ub addT rowT
  cases ea : M p a with
  | none =>
    simp
  | some x =>
    simp only
    by_cases h : lessO (some (x + c)) (M p b) = true
    · rw [if_pos h]
      rw [lead_ub]
      constructor
      · rintro (h1 | ⟨y, e, l⟩)
        · exact .inl h1
        · exact .inr ⟨x, y, rfl, e, l⟩
      · rintro (h1 | ⟨x', y, e0, e, l⟩)
        · exact .inl h1
        · have e0 := Option.some.inj e0
          exact .inr ⟨y, e, by omega⟩
    · rw [if_neg h]
      constructor
      · exact .inl
      · rintro (h1 | ⟨x', y, e0, e, l⟩)
        · exact h1
        · have e0 := Option.some.inj e0
          cases eb : M p b with
          | none =>
            rw [eb] at h
            exact absurd rfl h
          | some z =>
            rw [eb] at h
            have hz : ¬ x + c < z := fun k => h (decide_eq_true k)
            exact tri p b q z y ⟨z, eb, Int.le_refl _⟩ ⟨y, e, Int.le_refl _⟩ |>.mono (by omega)
theorem Best.add {M : Tab} {L : List Lit} (h : Best M L) {a b : Nat} {c : Int} (hb : ∀ m, M b a = some m → 0 ≤ m + c) : Best (addT M a b c) (L ++ [⟨a, b, c⟩]) := by
  have U : ∀ {p q s}, Ub (addT M a b c) p q s ↔ Ub M p q s ∨ ∃ x y, M p a = some x ∧ M b q = some y ∧ x + c + y ≤ s := fun {p q s} => addT_ub h.tri
  have back : ∀ {x y q}, M q a = some x → M b q = some y → 0 ≤ y + x + c := fun {x y q} e1 e2 => by
    obtain ⟨m, e, l⟩ := h.tri b q a y x ⟨y, e2, Int.le_refl _⟩ ⟨x, e1, Int.le_refl _⟩
    have := hb m e
    omega
  have old : ∀ {p q m}, M p q = some m → Ub M p q m := fun {p q m} e => ⟨m, e, Int.le_refl _⟩
  refine ⟨fun p => ?_, fun p q r s t hs ht => ?_, fun e he => ?_, fun M' hM p q m e => ?_⟩
  · obtain ⟨m, e, l⟩ := U.mpr (.inl ⟨0, h.diag p, Int.le_refl _⟩)
    have k : 0 ≤ m := by
      rcases U.mp ⟨m, e, Int.le_refl _⟩ with ⟨m', e', l'⟩ | ⟨x, y, e1, e2, l'⟩
      · rw [h.diag p] at e'
        have e' := Option.some.inj e'
        omega
      · have := back e1 e2
        omega
    rw [e]
    have : m = 0 := by omega
    rw [this]
  · rcases U.mp hs with h1 | ⟨x, y, e1, e2, l1⟩
    · rcases U.mp ht with h2 | ⟨x', y', e3, e4, l2⟩
      · exact U.mpr (.inl (h.tri _ _ _ _ _ h1 h2))
      · obtain ⟨m, e, l⟩ := h.tri p q a s x' h1 (old e3)
        exact U.mpr (.inr ⟨m, y', e, e4, by omega⟩)
    · rcases U.mp ht with h2 | ⟨x', y', e3, e4, l2⟩
      · obtain ⟨m, e, l⟩ := h.tri b q r y t (old e2) h2
        exact U.mpr (.inr ⟨x, m, e1, e, by omega⟩)
      · have := back e3 e2
        exact U.mpr (.inr ⟨x, y', e1, e4, by omega⟩)
  · rcases List.mem_append.mp he with he | he
    · exact U.mpr (.inl (h.lit e he))
    · rw [List.mem_singleton] at he
      subst he
      exact U.mpr (.inr ⟨0, 0, h.diag a, h.diag b, by show 0 + c + 0 ≤ c; omega⟩)
  · have hML : Closed M' L := ⟨hM.zero, hM.tri, fun e he => hM.lit e (List.mem_append_left _ he)⟩
    rcases U.mp ⟨m, e, Int.le_refl _⟩ with ⟨m', e', l'⟩ | ⟨x, y, e1, e2, l'⟩
    · exact (h.least M' hML p q m' e').mono l'
    · have hc : Ub M' a b c := hM.lit ⟨a, b, c⟩ (List.mem_append_right _ (List.mem_singleton.mpr rfl))
      exact (hM.tri _ _ _ _ _ (hM.tri _ _ _ _ _ (h.least M' hML _ _ _ e1) hc) (h.least M' hML _ _ _ e2)).mono l'
/-- a literal that says no more than is known -/
theorem Best.keep {M : Tab} {L : List Lit} (h : Best M L) {a b : Nat} {c : Int} (hb : Ub M a b c) : Best M (L ++ [⟨a, b, c⟩]) := by
  refine ⟨h.diag, h.tri, fun e he => ?_, fun M' hM => h.least M' ⟨hM.zero, hM.tri, fun e he => hM.lit e (List.mem_append_left _ he)⟩⟩
  rcases List.mem_append.mp he with he | he
  · exact h.lit e he
  · rw [List.mem_singleton] at he
    subst he
    exact hb
theorem Best.refused {M : Tab} {L : List Lit} (h : Best M L) {a b : Nat} {c m : Int} (e : M b a = some m) (l : m + c < 0) {L' : List Lit} (hL : ∀ e ∈ L, e ∈ L') (ha : ⟨a, b, c⟩ ∈ L') : ¬ Feas L' := by
  rintro ⟨x, hx⟩
  have h1 := h.within (x := x) (fun e he => hx e (hL e he)) e
  have h2 : x a - x b ≤ c := hx _ ha
  omega
/-- the bound of a literal that just fits -/
theorem Best.just {M M' : Tab} {L : List Lit} (h : Best M L) {a b : Nat} {m : Int} (e : M b a = some m) (h' : Best M' (L ++ [⟨a, b, -m⟩])) : M' a b = some (-m) := by
  have c1 : Closed M' L := ⟨h'.closed.zero, h'.tri, fun e he => h'.lit e (List.mem_append_left _ he)⟩
  obtain ⟨m1, e1, l1⟩ := h'.lit ⟨a, b, -m⟩ (List.mem_append_right _ (List.mem_singleton.mpr rfl))
  obtain ⟨m2, e2, l2⟩ := h.least _ c1 b a m e
  obtain ⟨m3, e3, l3⟩ := h'.tri a b a m1 m2 ⟨m1, e1, Int.le_refl _⟩ ⟨m2, e2, Int.le_refl _⟩
  rw [h'.diag] at e3
  have e3 := Option.some.inj e3
  have l1 : m1 ≤ -m := l1
  have e1 : M' a b = some m1 := e1
  rw [e1]
  have : m1 = -m := by omega
  rw [this]
/-! ### the values that a table tells -/
def IsLow (M : Tab) (n a : Nat) (m : Int) : Prop := (∃ b, b < n ∧ M a b = some m) ∧ ∀ b m', b < n → M a b = some m' → m ≤ m'
theorem Best.low {M : Tab} {L : List Lit} (h : Best M L) {n a b : Nat} {la lb m : Int} (ha : IsLow M n a la) (hb : IsLow M n b lb) (e : M a b = some m) : la - lb ≤ m := by
  obtain ⟨⟨q, hq, eq⟩, _⟩ := hb
  obtain ⟨m', e', l'⟩ := h.tri a b q m lb ⟨m, e, Int.le_refl _⟩ ⟨lb, eq, Int.le_refl _⟩
  have := ha.2 q m' hq e'
  omega
/-! ### rows of literals, each behind the one before -/
def upF {α : Type} (f : Nat → α) (a : Nat) (y : α) : Nat → α := fun i => if i = a then y else f i
theorem upF_same {α : Type} {f : Nat → α} {a : Nat} {y : α} : upF f a y a = y := if_pos rfl
theorem upF_ne {α : Type} {f : Nat → α} {a i : Nat} {y : α} (h : i ≠ a) : upF f a y i = f i := if_neg h
def sumC (es : List Lit) : Int := (es.map (·.c)).sum
theorem sumC_snoc (es : List Lit) (e : Lit) : sumC (es ++ [e]) = sumC es + e.c := by
  unfold sumC
  simp
inductive Chain (nx : Nat → Option Lit) (p : Nat) : List Lit → Nat → Prop
  | nil : Chain nx p [] p
  | snoc {es q e} : Chain nx p es q → nx q = some e → Chain nx p (es ++ [e]) e.b
theorem Chain.sat {nx : Nat → Option Lit} {L : List Lit} {x : Nat → Int} (hx : Sat x L) (hn : ∀ p e, nx p = some e → e ∈ L ∧ e.a = p) {p q : Nat} {es : List Lit} (h : Chain nx p es q) : x p - x q ≤ sumC es := by
  induction h with
  | nil => simp [sumC]
  | snoc h1 h2 ih =>
    rw [sumC_snoc]
    obtain ⟨h3, h4⟩ := hn _ _ h2
    have := hx _ h3
    rw [h4] at this
    omega
theorem Chain.mem {nx : Nat → Option Lit} {p q : Nat} {es : List Lit} (h : Chain nx p es q) : ∀ e ∈ es, ∃ r, nx r = some e := by
  induction h with
  | nil => intro e he; simp at he
  | snoc h1 h2 ih =>
    intro e he
    rcases List.mem_append.mp he with he | he
    · exact ih e he
    · rw [List.mem_singleton] at he
      subst he
      exact ⟨_, h2⟩
theorem Chain.last {nx : Nat → Option Lit} {p q : Nat} {es : List Lit} (h : Chain nx p es q) (ne : es ≠ []) : ∃ e, es[es.length - 1]? = some e ∧ e.b = q := by
  cases h with
  | nil => exact absurd rfl ne
  | snoc h1 h2 =>
    rename_i es' q' e
    exact ⟨e, by simp, rfl⟩
/-- each behind the one before -/
theorem Chain.links {nx : Nat → Option Lit} (hn : ∀ p e, nx p = some e → e.a = p) {p q : Nat} {es : List Lit} (h : Chain nx p es q) :
    ∀ (i : Nat) e, es[i]? = some e → (i = 0 → e.a = p) ∧ (∀ (j : Nat) f, i = j + 1 → es[j]? = some f → e.a = f.b) := by
  induction h with
  | nil => intro i e he; simp at he
  | snoc h1 h2 ih =>
    rename_i es' q' e'
    intro i e he
    rcases Nat.lt_trichotomy i es'.length with hi | hi | hi
    · rw [List.getElem?_append_left hi] at he
      obtain ⟨k1, k2⟩ := ih i e he
      refine ⟨k1, fun j f hj hf => ?_⟩
      rw [List.getElem?_append_left (by omega)] at hf
      exact k2 j f hj hf
    · subst hi
      rw [List.getElem?_append_right (Nat.le_refl _), Nat.sub_self] at he
      have he : e' = e := Option.some.inj he
      subst he
      have e4 := hn _ _ h2
      refine ⟨fun h0 => ?_, fun j f hj hf => ?_⟩
      · have : es' = [] := List.length_eq_zero_iff.mp h0
        subst this
        generalize hz : ([] : List Lit) = z at h1
        cases h1 with
        | nil => exact e4
        | snoc _ _ => simp at hz
      · rw [List.getElem?_append_left (by omega)] at hf
        have ne : es' ≠ [] := by
          intro z
          rw [z] at hj
          simp at hj
        obtain ⟨g, hg, hq⟩ := h1.last ne
        have : j = es'.length - 1 := by omega
        rw [this, hg] at hf
        have hf := Option.some.inj hf
        rw [e4, ← hq, hf]
    · rw [List.getElem?_eq_none (by simp; omega)] at he
      cases he
/-- a ring as is_ring looks at it -/
def Ring (es : List Lit) : Prop := es ≠ [] ∧ sumC es < 0 ∧ ∀ (i : Nat) e f, es[i]? = some e → es[if i = 0 then es.length - 1 else i - 1]? = some f → e.a = f.b
theorem Chain.ring {nx : Nat → Option Lit} (hn : ∀ p e, nx p = some e → e.a = p) {p : Nat} {es : List Lit} (h : Chain nx p es p) (ne : es ≠ []) (hs : sumC es < 0) : Ring es := by
  refine ⟨ne, hs, fun i e f he hf => ?_⟩
  obtain ⟨k1, k2⟩ := h.links hn i e he
  by_cases hi : i = 0
  · rw [if_pos hi] at hf
    obtain ⟨g, hg, hq⟩ := h.last ne
    rw [hg] at hf
    have hf := Option.some.inj hf
    rw [k1 hi, ← hq, hf]
  · rw [if_neg hi] at hf
    exact k2 (i - 1) f (by omega) hf
/-! ### the rounds -/
structure FR (n : Nat) (L : List Lit) (k i : Nat) (v : Nat → Int) (nx : Nat → Option Lit) (R : Nat → Nat) : Prop where
  nxl : ∀ p e, nx p = some e → e ∈ L ∧ e.a = p ∧ e.c + v e.b ≤ v p ∧ R p ≤ R e.b + 1
  nxn : ∀ p, nx p = none → R p = 0
  neg : ∀ p es, Chain nx p es p → es ≠ [] → sumC es < 0
  viol : ∀ (j : Nat) e, L[j]? = some e → v e.b + e.c < v e.a → if j < i then k ≤ R e.b else k ≤ R e.b + 1
  top : ∀ p, R p ≤ k
theorem FR.init (n : Nat) (L : List Lit) : FR n L 1 0 (fun _ => 0) (fun _ => none) (fun _ => 0) := by
  refine ⟨fun p e h => by simp at h, fun _ _ => rfl, fun p es h ne => ?_, fun j e he h => ?_, fun _ => Nat.zero_le _⟩
  · cases h with
    | nil => exact absurd rfl ne
    | snoc h1 h2 => simp at h2
  · rw [if_neg (Nat.not_lt_zero _)]
    omega
theorem FR.skip {n : Nat} {L : List Lit} {k i : Nat} {v : Nat → Int} {nx : Nat → Option Lit} {R : Nat → Nat} (h : FR n L k i v nx R) {e : Lit} (he : L[i]? = some e) (hv : ¬ v e.b + e.c < v e.a) : FR n L k (i + 1) v nx R := by
  refine ⟨h.nxl, h.nxn, h.neg, fun j e' he' hv' => ?_, h.top⟩
  have := h.viol j e' he' hv'
  by_cases hj : j = i
  · subst hj
    rw [he] at he'
    cases he'
    exact absurd hv' hv
  · by_cases hlt : j < i
    · rw [if_pos hlt] at this
      rw [if_pos (by omega)]
      exact this
    · rw [if_neg hlt] at this
      rw [if_neg (by omega)]
      exact this
theorem FR.next {n : Nat} {L : List Lit} {k : Nat} {v : Nat → Int} {nx : Nat → Option Lit} {R : Nat → Nat} (h : FR n L k L.length v nx R) : FR n L (k + 1) 0 v nx R := by
  refine ⟨h.nxl, h.nxn, h.neg, fun j e he hv => ?_, fun p => Nat.le_succ_of_le (h.top p)⟩
  have := h.viol j e he hv
  have hj : j < L.length := (List.getElem?_eq_some_iff.mp he).1
  rw [if_pos hj] at this
  rw [if_neg (Nat.not_lt_zero _)]
  omega
theorem FR.lower {n : Nat} {L : List Lit} {k i : Nat} {v : Nat → Int} {nx : Nat → Option Lit} {R : Nat → Nat} (h : FR n L k i v nx R) {e : Lit} (he : L[i]? = some e) (hv : v e.b + e.c < v e.a) :
    FR n L k (i + 1) (upF v e.a (v e.b + e.c)) (upF nx e.a (some e)) (upF R e.a k) := by
  have hle : ∀ p, upF v e.a (v e.b + e.c) p ≤ v p := fun p => by
    by_cases hp : p = e.a
    · subst hp
      rw [upF_same]
      omega
    · rw [upF_ne hp]
      exact Int.le_refl _
  have hR : ∀ p, R p ≤ upF R e.a k p := fun p => by
    by_cases hp : p = e.a
    · subst hp
      rw [upF_same]
      exact h.top _
    · rw [upF_ne hp]
      exact Nat.le_refl _
  have hkb : k ≤ R e.b + 1 := by
    have := h.viol i e he hv
    rw [if_neg (Nat.lt_irrefl _)] at this
    exact this
  refine ⟨fun p e' hp => ?_, fun p hp => ?_, fun p es hc ne => ?_, fun j e' he' hv' => ?_, fun p => ?_⟩
  · by_cases hpa : p = e.a
    · subst hpa
      rw [upF_same] at hp
      cases hp
      refine ⟨List.mem_of_getElem? he, rfl, ?_, ?_⟩
      · rw [upF_same]
        have := hle e.b
        omega
      · rw [upF_same]
        have := hR e.b
        omega
    · rw [upF_ne hpa] at hp
      obtain ⟨k1, k2, k3, k4⟩ := h.nxl p e' hp
      refine ⟨k1, k2, ?_, ?_⟩
      · rw [upF_ne hpa]
        have := hle e'.b
        omega
      · rw [upF_ne hpa]
        have := hR e'.b
        omega
  · by_cases hpa : p = e.a
    · subst hpa
      rw [upF_same] at hp
      cases hp
    · rw [upF_ne hpa] at hp ⊢
      exact h.nxn p hp
  · have key : ∀ {q es}, Chain (upF nx e.a (some e)) p es q → sumC es < v p - v q ∨ (sumC es ≤ v p - v q ∧ Chain nx p es q) := by
      intro q es hc
      induction hc with
      | nil => exact .inr ⟨by simp [sumC], .nil⟩
      | snoc h1 h2 ih =>
        rename_i es' q' e'
        rw [sumC_snoc]
        by_cases hq : q' = e.a
        · subst hq
          rw [upF_same] at h2
          cases h2
          rcases ih with ih | ⟨ih, _⟩
          · exact .inl (by omega)
          · exact .inl (by omega)
        · rw [upF_ne hq] at h2
          have := (h.nxl q' e' h2).2.2.1
          rcases ih with ih | ⟨ih, ic⟩
          · exact .inl (by omega)
          · exact .inr ⟨by omega, .snoc ic h2⟩
    rcases key hc with hc | ⟨_, hc⟩
    · omega
    · exact h.neg p es hc ne
  · have hv'' : v e'.b + e'.c < v e'.a ∨ e'.b = e.a := by
      by_cases hb : e'.b = e.a
      · exact .inr hb
      · rw [upF_ne hb] at hv'
        have := hle e'.a
        exact .inl (by omega)
    have goal : (if j < i + 1 then k ≤ upF R e.a k e'.b else k ≤ upF R e.a k e'.b + 1) := by
      by_cases hb : e'.b = e.a
      · rw [hb, upF_same]
        split <;> omega
      · have hv2 : v e'.b + e'.c < v e'.a := by
          rcases hv'' with z | z
          · exact z
          · exact absurd z hb
        rw [upF_ne hb] at hv' ⊢
        have := h.viol j e' he' hv2
        by_cases hj : j = i
        · subst hj
          rw [he] at he'
          cases he'
          rw [upF_same] at hv'
          exact absurd hv' (by omega)
        · by_cases hlt : j < i
          · rw [if_pos hlt] at this
            rw [if_pos (by omega)]
            exact this
          · rw [if_neg hlt] at this
            rw [if_neg (by omega)]
            exact this
    exact goal
  · by_cases hpa : p = e.a
    · subst hpa
      rw [upF_same]
      exact Nat.le_refl _
    · rw [upF_ne hpa]
      exact h.top p
theorem FR.nohit {n : Nat} {L : List Lit} {k i : Nat} {v : Nat → Int} {nx : Nat → Option Lit} {R : Nat → Nat} (h : FR n L k i v nx R) : ∀ p e, nx p = some e → e ∈ L ∧ e.a = p :=
  fun p e hp => let ⟨a, b, _⟩ := h.nxl p e hp; ⟨a, b⟩
/-- what a ring out of the rounds is -/
structure Found (L es : List Lit) : Prop where
  ring : Ring es
  sub : ∀ e ∈ es, e ∈ L
  bad : ¬ Feas es
theorem FR.found {n : Nat} {L : List Lit} {k i : Nat} {v : Nat → Int} {nx : Nat → Option Lit} {R : Nat → Nat} (h : FR n L k i v nx R) {p : Nat} {es : List Lit} (hc : Chain nx p es p) (ne : es ≠ []) : Found L es := by
  have hs := h.neg p es hc ne
  refine ⟨hc.ring (fun p e hp => (h.nohit p e hp).2) ne hs, fun e he => ?_, ?_⟩
  · obtain ⟨r, hr⟩ := hc.mem e he
    exact (h.nohit r e hr).1
  · rintro ⟨x, hx⟩
    have key : ∀ {q fs}, Chain nx p fs q → (∀ e ∈ fs, e ∈ es) → x p - x q ≤ sumC fs := by
      intro q fs hf
      induction hf with
      | nil => intro _; simp [sumC]
      | snoc h1 h2 ih =>
        intro hm
        rw [sumC_snoc]
        have i1 := ih fun e he => hm e (List.mem_append_left _ he)
        have i2 := hx _ (hm _ (List.mem_append_right _ (List.mem_singleton.mpr rfl)))
        rw [(h.nohit _ _ h2).2] at i2
        omega
    have := key hc fun e he => he
    omega
theorem Found.bad' {L es : List Lit} (h : Found L es) : ¬ Feas L := fun ⟨x, hx⟩ => h.bad ⟨x, fun e he => hx e (h.sub e he)⟩
/-! ### the way back along the literals that lowered last -/
def stp (nx : Nat → Option Lit) (p : Nat) : Nat := match nx p with
  | some e => e.b
  | none => p
def itr (nx : Nat → Option Lit) : Nat → Nat → Nat
  | 0, p => p
  | m + 1, p => stp nx (itr nx m p)
theorem itr_add (nx : Nat → Option Lit) (m l p : Nat) : itr nx (m + l) p = itr nx m (itr nx l p) := by
  induction m with
  | zero => rw [Nat.zero_add]; rfl
  | succ m ih =>
    rw [Nat.add_right_comm]
    show stp nx (itr nx (m + l) p) = stp nx (itr nx m (itr nx l p))
    rw [ih]
theorem pigeon : ∀ (n : Nat) (f : Nat → Nat), (∀ i, i ≤ n → f i < n) → ∃ i j, i < j ∧ j ≤ n ∧ f i = f j
  | 0, f, h => absurd (h 0 (Nat.le_refl _)) (Nat.not_lt_zero _)
  | n + 1, f, h => by
    by_cases hx : ∃ i, i ≤ n ∧ f i = f (n + 1)
    · obtain ⟨i, hi, e⟩ := hx
      exact ⟨i, n + 1, by omega, Nat.le_refl _, e⟩
    · have hne : ∀ i, i ≤ n → f i ≠ f (n + 1) := fun i hi e => hx ⟨i, hi, e⟩
      have hl : f (n + 1) < n + 1 := h (n + 1) (Nat.le_refl _)
      obtain ⟨i, j, h1, h2, h3⟩ := pigeon n (fun i => if f i = n then f (n + 1) else f i) (fun i hi => by
        have := h i (by omega)
        have := hne i hi
        show (if f i = n then f (n + 1) else f i) < n
        split <;> omega)
      have a1 := hne i (by omega)
      have a2 := hne j h2
      refine ⟨i, j, h1, by omega, ?_⟩
      have h3 : (if f i = n then f (n + 1) else f i) = (if f j = n then f (n + 1) else f j) := h3
      split at h3 <;> split at h3 <;> omega
/-- from a point that was lowered in the round n + 1, n steps back lead to a point of a ring; every point on the way was lowered -/
theorem FR.back {n k : Nat} {L : List Lit} {i : Nat} {v : Nat → Int} {nx : Nat → Option Lit} {R : Nat → Nat} (h : FR n L k i v nx R) (hL : ∀ e ∈ L, e.a < n ∧ e.b < n) {st : Nat} (hst : st < n) (hR : R st = n + 1) :
    (∀ m, itr nx m st < n) ∧ (∀ m, ∃ e, nx (itr nx m st) = some e) ∧ ∃ l, 0 < l ∧ l ≤ n ∧ itr nx (l + n) st = itr nx n st := by
  have hlt : ∀ m, itr nx m st < n := by
    intro m
    induction m with
    | zero => exact hst
    | succ m ih =>
      show stp nx (itr nx m st) < n
      unfold stp
      split
      · rename_i e he
        exact (hL e (h.nohit _ e he).1).2
      · exact ih
  have hr : ∀ m, m ≤ n → n + 1 ≤ R (itr nx m st) + m := by
    intro m
    induction m with
    | zero =>
      intro _
      show n + 1 ≤ R st + 0
      omega
    | succ m ih =>
      intro hm
      have := ih (by omega)
      show n + 1 ≤ R (stp nx (itr nx m st)) + (m + 1)
      unfold stp
      split
      · rename_i e he
        have := (h.nxl _ e he).2.2.2
        omega
      · rename_i he
        have := h.nxn _ he
        omega
  obtain ⟨a, b, h1, h2, h3⟩ := pigeon n (fun m => itr nx m st) fun m _ => hlt m
  have h3 : itr nx a st = itr nx b st := h3
  have per : itr nx ((b - a) + n) st = itr nx n st := by
    have e1 : (b - a) + n = (n - a) + b := by omega
    have e2 : n = (n - a) + a := by omega
    rw [e1, itr_add, ← h3, ← itr_add, ← e2]
  refine ⟨hlt, fun m => ?_, b - a, by omega, by omega, per⟩
  have all : ∀ m, m ≤ n → ∃ e, nx (itr nx m st) = some e := fun m hm => by
    cases he : nx (itr nx m st) with
    | some e => exact ⟨e, rfl⟩
    | none =>
      have := h.nxn _ he
      have := hr m hm
      omega
  induction m using Nat.strongRecOn with
  | ind m ih =>
    by_cases hm : m ≤ n
    · exact all m hm
    · have e1 : m = (m - b) + b := by omega
      have e3 : m - (b - a) = (m - b) + a := by omega
      have e2 : itr nx m st = itr nx (m - (b - a)) st := by
        rw [e3, itr_add, h3, ← itr_add, ← e1]
      rw [e2]
      exact ih _ (by omega)
/-! ### a table without a refusal has values -/
theorem low_ex (r : Nat → Option Int) : ∀ k : Nat, (∃ b, b < k ∧ ∃ m, r b = some m) → ∃ m, (∃ b, b < k ∧ r b = some m) ∧ ∀ b m', b < k → r b = some m' → m ≤ m'
  | 0, h => by
    obtain ⟨b, hb, _⟩ := h
    exact absurd hb (Nat.not_lt_zero _)
  | k + 1, h => by
    by_cases hk : ∃ b, b < k ∧ ∃ m, r b = some m
    · obtain ⟨m, ⟨b, hb, e⟩, hle⟩ := low_ex r k hk
      cases hr : r k with
      | none =>
        refine ⟨m, ⟨b, by omega, e⟩, fun b' m' hb' e' => ?_⟩
        by_cases hbk : b' = k
        · subst hbk
          rw [hr] at e'
          cases e'
        · exact hle b' m' (by omega) e'
      | some z =>
        by_cases hz : z < m
        · refine ⟨z, ⟨k, by omega, hr⟩, fun b' m' hb' e' => ?_⟩
          by_cases hbk : b' = k
          · subst hbk
            rw [hr] at e'
            cases e'
            omega
          · have := hle b' m' (by omega) e'
            omega
        · refine ⟨m, ⟨b, by omega, e⟩, fun b' m' hb' e' => ?_⟩
          by_cases hbk : b' = k
          · subst hbk
            rw [hr] at e'
            cases e'
            omega
          · exact hle b' m' (by omega) e'
    · obtain ⟨b, hb, m, e⟩ := h
      have hbk : b = k := by
        rcases Nat.lt_or_ge b k with z | z
        · exact absurd ⟨b, z, m, e⟩ hk
        · omega
      subst hbk
      refine ⟨m, ⟨b, hb, e⟩, fun b' m' hb' e' => ?_⟩
      by_cases hbk : b' = b
      · subst hbk
        rw [e] at e'
        cases e'
        omega
      · exact absurd ⟨b', by omega, m', e'⟩ hk
theorem Best.feas {M : Tab} {L : List Lit} (h : Best M L) {n : Nat} (hp : ∀ e ∈ L, e.a < n ∧ e.b < n) : Feas L := by
  have ex : ∀ a, ∃ m, a < n → IsLow M n a m := fun a => by
    by_cases ha : a < n
    · obtain ⟨m, hm⟩ := low_ex (M a) n ⟨a, ha, 0, h.diag a⟩
      exact ⟨m, fun _ => hm⟩
    · exact ⟨0, fun z => absurd z ha⟩
  refine ⟨fun a => Classical.choose (ex a), fun e he => ?_⟩
  obtain ⟨h1, h2⟩ := hp e he
  obtain ⟨m, hm, hle⟩ := h.lit e he
  have := h.low (Classical.choose_spec (ex e.a) h1) (Classical.choose_spec (ex e.b) h2) hm
  show Classical.choose (ex e.a) - Classical.choose (ex e.b) ≤ e.c
  omega
/-- values within the bounds satisfy the literals -/
theorem Best.sat {M : Tab} {L : List Lit} (h : Best M L) {n : Nat} (hp : ∀ e ∈ L, e.a < n ∧ e.b < n) {x : Nat → Int} (hx : ∀ a b m, a < n → b < n → M a b = some m → x a - x b ≤ m) : Sat x L := fun e he => by
  obtain ⟨h1, h2⟩ := hp e he
  obtain ⟨m, hm, hle⟩ := h.lit e he
  have := hx e.a e.b m h1 h2 hm
  omega
end K20

namespace K20
open PySem L2
/-! ### the text by places -/
def top (i : Nat) : Stmt := PySem.Challenge.pw_diesnon_k20_whole_ring_or_values.main.body.getD i (.Pass ⟨0, 0, 0, 0⟩)
/-! ### what a def's callers know of it -/
structure Cal (P : Program) (w : World) (K : PySem.W.Frag) (mg : Str → Option Value) (base : Heap) (x : Str) (ps : List Str) (k : Nat) (sp : Sp) where
  f : Addr
  fd : FuncData
  ok : FnOk P w K mg base CX0 k f fd ps sp
  mg : mg x = some (.ref f)
  kp : PySem.W.keepIn K (.ref f) = true
  b : Binds K fd ps []
structure CalM (P : Program) (w : World) (K : PySem.W.Frag) (mg : Str → Option Value) (base : Heap) (C : Addr) (m : Str) (ps : List Str) (k : Nat) (sp : Sp) where
  f : Addr
  fd : FuncData
  ok : FnOk P w K mg base CX0 k f fd ps sp
  me : Meth K C m f
  b : Binds K fd ps []
structure CalI (P : Program) (w : World) (K : PySem.W.Frag) (mg : Str → Option Value) (base : Heap) (C : Addr) (ps : List Str) (k : Nat) (sp : Sp) where
  f : Addr
  fd : FuncData
  ok : FnOk P w K mg base CX0 k f fd ps sp
  mkc : Mk K C f
  b : Binds K fd ps []
structure Txt (K : PySem.W.Frag) (mg : Str → Option Value) (C : Addr) (tk : Tok) : Prop where
  cl : Cls K C
  nL : NoAttr K C "_literals"
  nM : NoAttr K C "_least"
  mgC : mg "Bounds" = some (.ref C)
  gMAX : mg "MAX_POINTS" = some (.int 80 tk)
  len : mg "len" = none
  all : mg "all" = none
  sum : mg "sum" = none
  min : mg "min" = none
  max : mg "max" = none
  abs : mg "abs" = none
  int : mg "int" = none
  tuple : mg "tuple" = none
  list : mg "list" = none
  range : mg "range" = none
  enumerate : mg "enumerate" = none
/-! ### heaps -/
theorem Same.upd {H : Hp} {p : Addr} {o : HO} (h : H p = none) : Same H (upd H p o) := fun b x e => by
  rw [upd_ne (ne_of_none e h)]
  exact e
theorem _root_.L2.Same.tup {K : PySem.W.Frag} {H H' : Hp} {a : Addr} {xs : List V} (e : Same H H') (h : SqT K H a xs) : SqT K H' a xs := by
  rcases h with (h | ⟨o, h⟩) | h
  · exact .inl (.inl (e _ _ h))
  · exact .inl (.inr ⟨o, e _ _ h⟩)
  · exact .inr h
/-- a thing that was new when the heap was H0 is changed -/
theorem _root_.L2.Same.poke {H0 H : Hp} {p : Addr} {o : HO} (s : Same H0 H) (h : H0 p = none) : Same H0 (L2.upd H p o) := fun b x e => by
  rw [upd_ne (ne_of_none e h)]
  exact s b x e
/-! ### tables of values by place -/
def tab {α : Type} (n : Nat) (f : Nat → α) : List α := (List.range n).map f
theorem tab_len {α : Type} {n : Nat} {f : Nat → α} : (tab n f).length = n := by
  unfold tab
  rw [List.length_map, List.length_range]
theorem tab_get {α : Type} {n : Nat} {f : Nat → α} {i : Nat} (h : i < n) : (tab n f)[i]? = some (f i) := by
  unfold tab
  rw [List.getElem?_map, List.getElem?_range h]
  rfl
theorem tab_at {α : Type} {n : Nat} {f : Nat → α} {i : Nat} (h : i < n) : atI (tab n f) (i : Int) = some (f i) := atI_nat (tab_get h)
theorem tab_succ {α : Type} {n : Nat} {f : Nat → α} : tab (n + 1) f = tab n f ++ [f n] := by
  unfold tab
  rw [List.range_succ, List.map_append, List.map_singleton]
theorem tab_congr {α : Type} {n : Nat} {f g : Nat → α} (h : ∀ i, i < n → f i = g i) : tab n f = tab n g := by
  unfold tab
  exact List.map_congr_left fun i hi => h i (List.mem_range.mp hi)
theorem tab_map {α β : Type} {n : Nat} {f : Nat → α} {g : α → β} : (tab n f).map g = tab n fun i => g (f i) := by
  unfold tab
  rw [List.map_map]
  rfl
theorem tab_set {α : Type} {n : Nat} {f : Nat → α} {a : Nat} {y : α} : (tab n f).set a y = tab n (upF f a y) := by
  apply List.ext_getElem?
  intro i
  rw [List.getElem?_set]
  by_cases hi : i < n
  · rw [tab_get hi, tab_get hi]
    by_cases ha : a = i
    · subst ha
      rw [if_pos rfl, tab_len, if_pos hi, upF_same]
    · rw [if_neg ha, upF_ne (fun z => ha z.symm)]
  · have h1 : (tab n f)[i]? = none := List.getElem?_eq_none (by rw [tab_len]; omega)
    have h2 : (tab n (upF f a y))[i]? = none := List.getElem?_eq_none (by rw [tab_len]; omega)
    rw [h1, h2, tab_len]
    by_cases ha : a = i
    · rw [if_pos ha, if_neg (by omega)]
    · rw [if_neg ha]
theorem tab_rep {α : Type} (n : Nat) (x : α) : (List.replicate n [x]).flatten = tab n fun _ => x := by
  induction n with
  | zero => rfl
  | succ n ih =>
    rw [tab_succ, ← ih, List.replicate_succ', List.flatten_append]
    rfl
theorem tab_of {α : Type} {xs : List α} {n : Nat} {f : Nat → α} (hl : xs.length = n) (h : ∀ (i : Nat) x, xs[i]? = some x → x = f i) : xs = tab n f := by
  apply List.ext_getElem?
  intro i
  by_cases hi : i < n
  · rw [tab_get hi]
    have e := List.getElem?_eq_getElem (l := xs) (i := i) (by omega)
    rw [e, h i _ e]
  · rw [List.getElem?_eq_none (by omega), List.getElem?_eq_none (by rw [tab_len]; omega)]
theorem ixN_nat {n i : Nat} (h : i < n) : ixN n (i : Int) = some i := by
  unfold ixN
  rw [if_pos (Int.natCast_nonneg i), if_pos (Int.ofNat_lt.mpr h)]
  rfl
abbrev iT (n : Nat) (v : Nat → Int) : List V := tab n fun i => V.int (v i)
def optV : Option Int → V
  | none => .non
  | some m => .int m
theorem optV_non {o : Option Int} : decide (optV o = .non) = o.isNone := by
  cases o <;> rfl
abbrev oT (n : Nat) (r : Nat → Option Int) : List V := tab n fun i => optV (r i)
/-! ### literals in the heap -/
abbrev litV (e : Lit) : List V := [.int e.a, .int e.b, .int e.c]
structure Lits (K : PySem.W.Frag) (H : Hp) (vs : List V) (es : List Lit) : Prop where
  len : vs.length = es.length
  at_ : ∀ (i : Nat) v, vs[i]? = some v → ∃ t e, v = .ref t ∧ es[i]? = some e ∧ SqT K H t (litV e)
theorem Lits.same {K : PySem.W.Frag} {H H' : Hp} {vs : List V} {es : List Lit} (h : Lits K H vs es) (s : Same H H') : Lits K H' vs es :=
  ⟨h.len, fun i v hv => let ⟨t, e, a, b, c⟩ := h.at_ i v hv; ⟨t, e, a, b, s.tup c⟩⟩
theorem Lits.nil {K : PySem.W.Frag} {H : Hp} : Lits K H [] [] := ⟨rfl, fun i v h => by simp at h⟩
theorem Lits.snoc {K : PySem.W.Frag} {H : Hp} {vs : List V} {es : List Lit} {t : Addr} {e : Lit} (h : Lits K H vs es) (ht : SqT K H t (litV e)) : Lits K H (vs ++ [.ref t]) (es ++ [e]) := by
  refine ⟨by simp [h.len], fun i v hv => ?_⟩
  by_cases hi : i < vs.length
  · rw [List.getElem?_append_left hi] at hv
    obtain ⟨t', e', a, b, c⟩ := h.at_ i v hv
    exact ⟨t', e', a, by rw [List.getElem?_append_left (by rw [← h.len]; exact hi)]; exact b, c⟩
  · rw [List.getElem?_append_right (by omega)] at hv
    by_cases h0 : i - vs.length = 0
    · rw [h0] at hv
      have hv := Option.some.inj hv
      exact ⟨t, e, hv.symm, by rw [List.getElem?_append_right (by rw [← h.len]; omega), ← h.len, h0]; rfl, ht⟩
    · rw [List.getElem?_eq_none (by simp; omega)] at hv
      cases hv
theorem Lits.get {K : PySem.W.Frag} {H : Hp} {vs : List V} {es : List Lit} (h : Lits K H vs es) {i : Nat} {e : Lit} (he : es[i]? = some e) : ∃ t, vs[i]? = some (.ref t) ∧ SqT K H t (litV e) := by
  have hi : i < vs.length := by
    rw [h.len]
    exact (List.getElem?_eq_some_iff.mp he).1
  obtain ⟨t, e', a, b, c⟩ := h.at_ i _ (List.getElem?_eq_getElem hi)
  rw [b] at he
  cases he
  exact ⟨t, by rw [List.getElem?_eq_getElem hi, a], c⟩
theorem Lits.rev {K : PySem.W.Frag} {H : Hp} {vs : List V} {es : List Lit} (h : Lits K H vs es) : Lits K H vs.reverse es.reverse := by
  refine ⟨by simp [h.len], fun i v hv => ?_⟩
  have hi : i < vs.length := by
    have := (List.getElem?_eq_some_iff.mp hv).1
    rw [List.length_reverse] at this
    exact this
  rw [List.getElem?_reverse hi] at hv
  obtain ⟨t, e, a, b, c⟩ := h.at_ _ v hv
  refine ⟨t, e, a, ?_, c⟩
  rw [List.getElem?_reverse (by rw [← h.len]; exact hi), ← h.len]
  exact b
def Pts (n : Nat) (L : List Lit) : Prop := ∀ e ∈ L, e.a < n ∧ e.b < n
theorem small {n : Nat} (h : n ≤ 1000) : n < sizeLine := small1000 h
theorem small' {n : Nat} (h : n ≤ 1000) : n ≤ sizeLine := Nat.le_of_lt (small1000 h)
/-! ### a Bounds in the heap -/
theorem nLM : ¬ (("_literals" : Str) = "_least") := by decide +kernel
theorem nML : ¬ (("_least" : Str) = "_literals") := by decide +kernel
def pf (l m : Addr) : List (Str × V) := putF "_least" (.ref m) (putF "_literals" (.ref l) [])
theorem pf_eq (l m : Addr) : pf l m = ([("_literals", V.ref l), ("_least", V.ref m)] : List (Str × V)) := by
  show (if ("_literals" : Str) = "_least" then [(("_literals" : Str), V.ref m)] else (("_literals" : Str), V.ref l) :: putF "_least" (V.ref m) []) = ([("_literals", V.ref l), ("_least", V.ref m)] : List (Str × V))
  rw [if_neg nLM]
  all_goals rfl
theorem pf_lits (l m : Addr) : (pf l m).lookup ("_literals" : Str) = some (.ref l) := by
  unfold pf
  rw [lookup_putF, if_neg nLM, lookup_putF, if_pos rfl]
theorem pf_least (l m : Addr) : (pf l m).lookup ("_least" : Str) = some (.ref m) := by
  unfold pf
  rw [lookup_putF, if_pos rfl]
theorem pf_no (l m : Addr) {x : Str} (h1 : ¬ x = "_least") (h2 : ¬ x = "_literals") : (pf l m).lookup x = none := by
  unfold pf
  rw [lookup_putF, if_neg h1, lookup_putF, if_neg h2]
  all_goals rfl
theorem pf_put_lits (l l' m : Addr) : putF "_literals" (.ref l') (pf l m) = pf l' m := by
  rw [pf_eq, pf_eq]
  show (if ("_literals" : Str) = "_literals" then (("_literals" : Str), V.ref l') :: [(("_least" : Str), V.ref m)] else _) = ([("_literals", V.ref l'), ("_least", V.ref m)] : List (Str × V))
  rw [if_pos rfl]
theorem pf_put_least (l m m' : Addr) : putF "_least" (.ref m') (pf l m) = pf l m' := by
  rw [pf_eq, pf_eq]
  show (if ("_literals" : Str) = "_least" then _ else (("_literals" : Str), V.ref l) :: (if ("_least" : Str) = "_least" then [(("_least" : Str), V.ref m')] else _)) = ([("_literals", V.ref l), ("_least", V.ref m')] : List (Str × V))
  rw [if_neg nLM, if_pos rfl]
/-- rows of a table -/
structure Rows (H : Hp) (rows : List Addr) (n : Nat) (M : Tab) : Prop where
  len : rows.length = n
  at_ : ∀ (i : Nat) r, rows[i]? = some r → H r = some (.lst (oT n (M i)))
theorem Rows.same {H H' : Hp} {rows : List Addr} {n : Nat} {M : Tab} (h : Rows H rows n M) (s : Same H H') : Rows H' rows n M :=
  ⟨h.len, fun i r hr => s _ _ (h.at_ i r hr)⟩
theorem Rows.get {H : Hp} {rows : List Addr} {n : Nat} {M : Tab} (h : Rows H rows n M) {i : Nat} (hi : i < n) : ∃ r, rows[i]? = some r ∧ (rows.map V.ref)[i]? = some (.ref r) ∧ H r = some (.lst (oT n (M i))) := by
  have e := List.getElem?_eq_getElem (l := rows) (i := i) (by rw [h.len]; exact hi)
  refine ⟨rows[i]'(by rw [h.len]; exact hi), e, ?_, h.at_ i _ e⟩
  rw [List.getElem?_map, e]
  rfl
structure BAt0 (C : Addr) (H0 H : Hp) (p : Addr) (n : Nat) (M : Tab) (k : Nat) (dx l m : Addr) (rows : List Addr) (lits : List V) : Prop where
  same : Same H0 H
  p0 : H0 p = none
  l0 : H0 l = none
  m0 : H0 m = none
  r0 : ∀ r ∈ rows, H0 r = none
  hp : H p = some (.ins C dx (pf l m))
  hl : H l = some (.lst lits)
  nl : lits.length ≤ k
  hm : H m = some (.lst (rows.map V.ref))
  nd : rows.Nodup
  rs : Rows H rows n M
  lr : l ∉ rows
  mr : m ∉ rows
  lm : l ≠ m
/-- behind the heap H0 a Bounds of n points stands at p whose table is M; at most k literals are kept -/
def BAt (C : Addr) (H0 H : Hp) (p : Addr) (n : Nat) (M : Tab) (k : Nat) : Prop := ∃ dx l m rows lits, BAt0 C H0 H p n M k dx l m rows lits
theorem BAt0.on {C : Addr} {H0 H H' : Hp} {p : Addr} {n : Nat} {M : Tab} {k : Nat} {dx l m : Addr} {rows : List Addr} {lits : List V} (h : BAt0 C H0 H p n M k dx l m rows lits) (s : Same H H') : BAt0 C H0 H' p n M k dx l m rows lits :=
  ⟨h.same.trans s, h.p0, h.l0, h.m0, h.r0, s _ _ h.hp, s _ _ h.hl, h.nl, s _ _ h.hm, h.nd, h.rs.same s, h.lr, h.mr, h.lm⟩
theorem BAt.on {C : Addr} {H0 H H' : Hp} {p : Addr} {n : Nat} {M : Tab} {k : Nat} (h : BAt C H0 H p n M k) (s : Same H H') : BAt C H0 H' p n M k :=
  let ⟨_, _, _, _, _, q⟩ := h; ⟨_, _, _, _, _, q.on s⟩
theorem BAt.same {C : Addr} {H0 H : Hp} {p : Addr} {n : Nat} {M : Tab} {k : Nat} (h : BAt C H0 H p n M k) : Same H0 H :=
  let ⟨_, _, _, _, _, q⟩ := h; q.same
/-- with less known ahead of it -/
theorem BAt.less {C : Addr} {H1 H0 H : Hp} {p : Addr} {n : Nat} {M : Tab} {k : Nat} (h : BAt C H0 H p n M k) (s : Same H1 H0) : BAt C H1 H p n M k :=
  let ⟨_, _, _, _, _, q⟩ := h
  ⟨_, _, _, _, _, ⟨s.trans q.same, s.free q.p0, s.free q.l0, s.free q.m0, fun r hr => s.free (q.r0 r hr), q.hp, q.hl, q.nl, q.hm, q.nd, q.rs, q.lr, q.mr, q.lm⟩⟩
/-- a table as the law makes it -/
def TAt (H : Hp) (t : Addr) (n : Nat) (M : Tab) : Prop := ∃ rows, H t = some (.lst (rows.map V.ref)) ∧ Rows H rows n M
theorem TAt.same {H H' : Hp} {t : Addr} {n : Nat} {M : Tab} (h : TAt H t n M) (s : Same H H') : TAt H' t n M :=
  let ⟨rows, a, b⟩ := h; ⟨rows, s _ _ a, b.same s⟩
/-- what stands at a point in the list of the literals that lowered last -/
def LastV (K : PySem.W.Frag) (H : Hp) (v : V) (o : Option Lit) : Prop := (v = .non ∧ o = none) ∨ ∃ t e, v = .ref t ∧ o = some e ∧ SqT K H t (litV e)
theorem LastV.same {K : PySem.W.Frag} {H H' : Hp} {v : V} {o : Option Lit} (h : LastV K H v o) (s : Same H H') : LastV K H' v o := by
  rcases h with h | ⟨t, e, a, b, c⟩
  · exact .inl h
  · exact .inr ⟨t, e, a, b, s.tup c⟩
/-! ### a comprehension whose items are told by place -/
def PvT (H1 : Hp) (D : Addr) (f : Nat → V) (i : Nat) (H : Hp) : Prop := Same H1 H ∧ H D = some (.lst (tab i f))
theorem PvT.start {H1 : Hp} {D : Addr} {f : Nat → V} (hD : H1 D = none) : PvT H1 D f 0 (upd H1 D (.lst [])) := ⟨Same.upd hD, upd_same⟩
theorem PvT.next {H1 H H4 : Hp} {D : Addr} {f : Nat → V} {i : Nat} {y : V} (h : PvT H1 D f i H) (hD : H1 D = none) (hi : i < 1000) (s : Same H H4) (e : y = f i) :
    ∃ acc, H4 D = some (.lst acc) ∧ acc.length < sizeLine ∧ PvT H1 D f (i + 1) (upd H4 D (.lst (acc ++ [y]))) := by
  refine ⟨tab i f, s _ _ h.2, by rw [tab_len]; exact small (by omega), (h.1.trans s).poke hD, ?_⟩
  rw [upd_same, tab_succ, e]
theorem tab_all {n : Nat} {f : Nat → Bool} (h : ∀ i, i < n → f i = true) : (tab n f).all id = true := by
  rw [List.all_eq_true]
  intro b hb
  unfold tab at hb
  obtain ⟨i, hi, e⟩ := List.mem_map.mp hb
  rw [← e]
  exact h i (List.mem_range.mp hi)
theorem atI_back {α : Type} {xs : List α} {v : α} (h : xs[xs.length - 1]? = some v) : atI xs (-1) = some v := by
  have hp : 0 < xs.length := by
    have := (List.getElem?_eq_some_iff.mp h).1
    omega
  unfold atI ixN
  rw [if_neg (by decide), if_pos (by omega)]
  show xs[(-1 + (xs.length : Int)).toNat]? = some v
  have : (-1 + (xs.length : Int)).toNat = xs.length - 1 := by omega
  rw [this]
  exact h
/-! ### rules whose reading names the written part by a letter (for use inside a comprehension) -/
theorem ixL {X : Cx} {K : PySem.W.Frag} (h : X.K = K := by rfl) : IxR X (rIxL K) := by
  subst h
  exact ix_list
theorem ixT {X : Cx} {K : PySem.W.Frag} (h : X.K = K := by rfl) : IxR X (rIxT K) := by
  subst h
  exact ix_tup
theorem fldK {X : Cx} {K : PySem.W.Frag} {e : Expr} {f : Str} {pos : Pos} {ta : TE} (h : X.K = K) (he : PE X e ta) (hb : attributeBase e f X.env (eval e X.env) = eval e X.env) : PE X (.Attribute e f pos) (tFld K ta f) := by
  subst h
  exact pe_fld he hb
theorem listK {X : Cx} {K : PySem.W.Frag} (h : X.K = K := by rfl) : CallR X (.type "list") (fun xs H Q => ∃ p ys, xs = [.ref p] ∧ (SqL K H p ys ∨ SqT K H p ys) ∧ ∀ l, H l = none → Q (.ref l) (upd H l (.lst ys))) := by
  subst h
  exact call_list_of
theorem inDK {X : Cx} {K : PySem.W.Frag} (hu : X.A.units + 65 < cLine) (h : X.K = K := by rfl) : OpR X (compareOp .In) (rInD K) := by
  subst h
  exact op_inD hu
theorem pg_tupK {X : Cx} {K : PySem.W.Frag} {es : List Expr} {k n : Nat} {t : TGs} {pos : Pos} (hK : X.K = K) (hc : X.calm = true) (h : PGs X es t)
    (hn : (assignEach es X.env).length = n := by rfl) (hst : (assignEach es X.env).findIdx? (·.1) = none := by rfl) : PG X (.Tuple es k pos) (gTup K n t) := by
  subst hK
  exact pg_tup hc h hn hst
/-! ### tuples stand when a list is written -/
theorem tup_poke {K : PySem.W.Frag} {H : Hp} {D t : Addr} {xs ys : List V} {o : HO} (h : SqT K H t ys) (hD : H D = some (.lst xs)) : SqT K (upd H D o) t ys := by
  rcases h with (h | ⟨u, h⟩) | h
  · exact .inl (.inl (by rw [upd_ne (ne_of h hD (by intro z; cases z))]; exact h))
  · exact .inl (.inr ⟨u, by rw [upd_ne (ne_of h hD (by intro z; cases z))]; exact h⟩)
  · exact .inr h
theorem Lits.poke {K : PySem.W.Frag} {H : Hp} {D : Addr} {xs vs : List V} {es : List Lit} {o : HO} (h : Lits K H vs es) (hD : H D = some (.lst xs)) : Lits K (upd H D o) vs es :=
  ⟨h.len, fun i v hv => let ⟨t, e, a, b, c⟩ := h.at_ i v hv; ⟨t, e, a, b, tup_poke c hD⟩⟩
theorem LastV.poke {K : PySem.W.Frag} {H : Hp} {D : Addr} {xs : List V} {v : V} {q : Option Lit} {o : HO} (h : LastV K H v q) (hD : H D = some (.lst xs)) : LastV K (upd H D o) v q := by
  rcases h with h | ⟨t, e, a, b, c⟩
  · exact .inl h
  · exact .inr ⟨t, e, a, b, tup_poke c hD⟩
theorem iT_set {n a : Nat} {v : Nat → Int} {x : Int} : (iT n v).set a (.int x) = iT n (upF v a x) := by
  rw [tab_set]
  refine tab_congr fun i _ => ?_
  unfold upF
  split <;> rfl
theorem iT_rep {n : Nat} {x : Int} : (List.replicate n [V.int x]).flatten = iT n fun _ => x := tab_rep n _
theorem atI_nat_get {α : Type} {xs : List α} {j : Nat} {v : α} (h : atI xs (j : Int) = some v) : xs[j]? = some v := by
  unfold atI ixN at h
  rw [if_pos (Int.natCast_nonneg j)] at h
  by_cases hj : (j : Int) < xs.length
  · rw [if_pos hj] at h
    exact h
  · rw [if_neg hj] at h
    cases h
end K20

namespace K20
open PySem L2
theorem oT_set {n q : Nat} {f : Nat → Option Int} {y : Int} : (oT n f).set q (.int y) = oT n (upF f q (some y)) := by
  rw [tab_set]
  refine tab_congr fun i _ => ?_
  unfold upF
  split <;> rfl
theorem Rows.congr {H : Hp} {rows : List Addr} {n : Nat} {M M' : Tab} (h : Rows H rows n M) (e : ∀ i j, i < n → j < n → M i j = M' i j) : Rows H rows n M' := by
  refine ⟨h.len, fun i r hr => ?_⟩
  have hi : i < n := by
    rw [← h.len]
    exact (List.getElem?_eq_some_iff.mp hr).1
  rw [h.at_ i r hr]
  exact congrArg (fun z => some (HO.lst z)) (tab_congr fun j hj => by rw [e i j hi hj])
theorem BAt0.congr {C : Addr} {H0 H : Hp} {p : Addr} {n : Nat} {M M' : Tab} {k : Nat} {dx l m : Addr} {rows : List Addr} {lits : List V} (h : BAt0 C H0 H p n M k dx l m rows lits) (e : ∀ i j, i < n → j < n → M i j = M' i j) :
    BAt0 C H0 H p n M' k dx l m rows lits :=
  ⟨h.same, h.p0, h.l0, h.m0, h.r0, h.hp, h.hl, h.nl, h.hm, h.nd, h.rs.congr e, h.lr, h.mr, h.lm⟩
theorem BAt0.pne {C : Addr} {H0 H : Hp} {p : Addr} {n : Nat} {M : Tab} {k : Nat} {dx l m : Addr} {rows : List Addr} {lits : List V} (h : BAt0 C H0 H p n M k dx l m rows lits) {a : Addr} {xs : List V} (e : H a = some (.lst xs)) : p ≠ a :=
  ne_of h.hp e (by intro z; cases z)
theorem Rows.mem {H : Hp} {rows : List Addr} {n : Nat} {M : Tab} (h : Rows H rows n M) {r : Addr} (hr : r ∈ rows) : ∃ xs, H r = some (.lst xs) := by
  obtain ⟨i, hi⟩ := List.mem_iff_getElem?.mp hr
  exact ⟨_, h.at_ i r hi⟩
/-- one row is written -/
theorem BAt0.row {C : Addr} {H0 H : Hp} {p : Addr} {n : Nat} {M : Tab} {k : Nat} {dx l m : Addr} {rows : List Addr} {lits : List V} (h : BAt0 C H0 H p n M k dx l m rows lits) {i : Nat} {r : Addr} (hr : rows[i]? = some r) (f : Nat → Option Int) :
    BAt0 C H0 (upd H r (.lst (oT n f))) p n (upF M i f) k dx l m rows lits := by
  have hm : r ∈ rows := List.mem_of_getElem? hr
  have hrr := h.rs.at_ i r hr
  refine ⟨h.same.poke (h.r0 r hm), h.p0, h.l0, h.m0, h.r0, ?_, ?_, h.nl, ?_, h.nd, ⟨h.rs.len, fun j r' hr' => ?_⟩, h.lr, h.mr, h.lm⟩
  · rw [upd_ne (h.pne hrr)]
    exact h.hp
  · rw [upd_ne (fun z => h.lr (by rw [z]; exact hm))]
    exact h.hl
  · rw [upd_ne (fun z => h.mr (by rw [z]; exact hm))]
    exact h.hm
  · by_cases hj : j = i
    · subst hj
      rw [hr] at hr'
      cases hr'
      rw [upd_same, upF_same]
    · rw [upF_ne hj, upd_ne (fun z => hj (nd_ix h.nd (by rw [← z]; exact hr') hr))]
      exact h.rs.at_ j r' hr'
/-- a literal is appended -/
theorem BAt0.lit {C : Addr} {H0 H : Hp} {p : Addr} {n : Nat} {M : Tab} {k : Nat} {dx l m : Addr} {rows : List Addr} {lits : List V} (h : BAt0 C H0 H p n M k dx l m rows lits) (v : V) :
    BAt0 C H0 (upd H l (.lst (lits ++ [v]))) p n M (k + 1) dx l m rows (lits ++ [v]) := by
  refine ⟨h.same.poke h.l0, h.p0, h.l0, h.m0, h.r0, ?_, upd_same, by have := h.nl; simp; omega, ?_, h.nd, ⟨h.rs.len, fun j r hr => ?_⟩, h.lr, h.mr, h.lm⟩
  · rw [upd_ne (h.pne h.hl)]
    exact h.hp
  · rw [upd_ne h.lm.symm]
    exact h.hm
  · rw [upd_ne (fun z => h.lr (by rw [← z]; exact List.mem_of_getElem? hr))]
    exact h.rs.at_ j r hr
theorem BAt0.bat {C : Addr} {H0 H : Hp} {p : Addr} {n : Nat} {M : Tab} {k : Nat} {dx l m : Addr} {rows : List Addr} {lits : List V} (h : BAt0 C H0 H p n M k dx l m rows lits) : BAt C H0 H p n M k := ⟨_, _, _, _, _, h⟩
theorem BAt0.get {C : Addr} {H0 H : Hp} {p : Addr} {n : Nat} {M : Tab} {k : Nat} {dx l m : Addr} {rows : List Addr} {lits : List V} (h : BAt0 C H0 H p n M k dx l m rows lits) {i : Nat} (hi : i < n) :
    ∃ r, rows[i]? = some r ∧ atI (rows.map V.ref) (i : Int) = some (.ref r) ∧ H r = some (.lst (oT n (M i))) := by
  obtain ⟨r, a, b, c⟩ := h.rs.get hi
  exact ⟨r, a, atI_nat b, c⟩
/-- rows that are made one after the other, held by the list at D; Hs is the heap ahead of D -/
structure RN (Hs H : Hp) (D : Addr) (rows : List Addr) (n : Nat) (M : Tab) : Prop where
  same : Same Hs H
  hD : H D = some (.lst (rows.map V.ref))
  nd : rows.Nodup
  r0 : ∀ r ∈ rows, Hs r = none
  rD : D ∉ rows
  at_ : ∀ (i : Nat) r, rows[i]? = some r → H r = some (.lst (oT n (M i)))
theorem RN.start {Hs : Hp} {D : Addr} {n : Nat} {M : Tab} (h : Hs D = none) : RN Hs (upd Hs D (.lst [])) D [] n M :=
  ⟨Same.upd h, upd_same, .nil, fun _ h => by simp at h, by simp, fun i r h => by simp at h⟩
theorem RN.next {Hs H H' : Hp} {D : Addr} {rows : List Addr} {n : Nat} {M : Tab} (h : RN Hs H D rows n M) (hD0 : Hs D = none) (s : Same H H') {r : Addr} (hr : H r = none) (hr' : H' r = some (.lst (oT n (M rows.length)))) :
    RN Hs (upd H' D (.lst (rows.map V.ref ++ [.ref r]))) D (rows ++ [r]) n M := by
  have hrD : r ≠ D := (ne_of_none h.hD hr).symm
  have hne : ∀ r' ∈ rows, r' ≠ D := fun r' hm z => h.rD (by rw [← z]; exact hm)
  have hnr : r ∉ rows := fun hm => by
    obtain ⟨i, hi⟩ := List.mem_iff_getElem?.mp hm
    have := h.at_ i r hi
    rw [hr] at this
    cases this
  refine ⟨(h.same.trans s).poke hD0, by rw [upd_same, List.map_append]; rfl, ?_, fun r' hm => ?_, ?_, fun i r' hi => ?_⟩
  · rw [List.nodup_append]
    refine ⟨h.nd, by simp, fun a ha b hb => ?_⟩
    rw [List.mem_singleton] at hb
    subst hb
    intro z
    exact hnr (by rw [← z]; exact ha)
  · rcases List.mem_append.mp hm with hm | hm
    · exact h.r0 r' hm
    · rw [List.mem_singleton] at hm
      rw [hm]
      exact h.same.free hr
  · intro hm
    rcases List.mem_append.mp hm with hm | hm
    · exact h.rD hm
    · rw [List.mem_singleton] at hm
      exact hrD hm.symm
  · by_cases hi' : i < rows.length
    · rw [List.getElem?_append_left hi'] at hi
      rw [upd_ne (hne r' (List.mem_of_getElem? hi))]
      exact s _ _ (h.at_ i r' hi)
    · rw [List.getElem?_append_right (by omega)] at hi
      by_cases h0 : i - rows.length = 0
      · rw [h0] at hi
        have hi := Option.some.inj hi
        have : i = rows.length := by omega
        rw [← hi, this, upd_ne hrD]
        exact hr'
      · rw [List.getElem?_eq_none (by simp; omega)] at hi
        cases hi
end K20

namespace K20
open PySem L2
/-! ### literals and tables as data -/
def litD (e : Lit) : PyData := .tuple [.int (e.a : Nat), .int (e.b : Nat), .int e.c]
theorem litD_dp {K : PySem.W.Frag} {H : Hp} {t : Addr} {e : Lit} (h : SqT K H t (litV e)) : Dp K H (.ref t) (litD e) := .tup h (.cons (.int _) (.cons (.int _) (.cons (.int _) .nil)))
theorem Lits.dp {K : PySem.W.Frag} {H : Hp} : ∀ {vs : List V} {es : List Lit}, Lits K H vs es → DpAll K H vs (es.map litD)
  | [], [], _ => .nil
  | [], _ :: _, h => by
    have := h.len
    simp at this
  | _ :: _, [], h => by
    have := h.len
    simp at this
  | v :: vs, e :: es, h => by
    obtain ⟨t, e', rfl, he, ht⟩ := h.at_ 0 v rfl
    have he := Option.some.inj he
    subst he
    refine .cons (litD_dp ht) (Lits.dp ⟨by have := h.len; simpa using this, fun i v hv => ?_⟩)
    obtain ⟨t', e', a, b, c⟩ := h.at_ (i + 1) v (by simpa using hv)
    exact ⟨t', e', a, by simpa using b, c⟩
theorem lit_can (e : Lit) : PyData.canLay0 (litD e) = true := by
  simp [litD, PyData.canLay0, PyData.canLayAll0]
theorem lit_depth (e : Lit) : PyData.depth (litD e) = 1 := by
  simp [litD, PyData.depth, PyData.depthAll]
theorem lits_can : ∀ es : List Lit, PyData.canLayAll0 (es.map litD) = true
  | [] => by simp [PyData.canLayAll0]
  | e :: es => by
    simp only [List.map_cons, PyData.canLayAll0, lit_can, lits_can es, Bool.and_self]
theorem lits_depth : ∀ es : List Lit, PyData.depthAll (es.map litD) ≤ 1
  | [] => by simp [PyData.depthAll]
  | e :: es => by
    have := lits_depth es
    simp only [List.map_cons, PyData.depthAll, lit_depth]
    omega
theorem lit_shaped (e : Lit) : SeqAt.shaped (litD e) = true := by
  unfold SeqAt.shaped
  rw [lit_can, lit_depth]
  rfl
theorem lits_shaped (es : List Lit) : SeqAt.shaped (.list (es.map litD)) = true := by
  unfold SeqAt.shaped
  have := lits_depth es
  have h2 : PyData.depth (.list (es.map litD)) = PyData.depthAll (es.map litD) + 1 := by simp [PyData.depth]
  rw [Bool.and_eq_true]
  refine ⟨?_, decide_eq_true (by omega)⟩
  have : PyData.canLay0 (.list (es.map litD)) = PyData.canLayAll0 (es.map litD) := by simp [PyData.canLay0]
  rw [this]
  exact lits_can es
theorem lits_in {es : List Lit} {e : Lit} (h : e ∈ es) : ((es.map litD).any fun z => PyData.eqv z (litD e)) = true := by
  rw [List.any_eq_true]
  refine ⟨litD e, List.mem_map.mpr ⟨e, h, rfl⟩, ?_⟩
  simp [litD, PyData.eqv, PyData.eqvAll]
def optD : Option Int → PyData
  | none => .none
  | some m => .int m
def rowD (n : Nat) (r : Nat → Option Int) : PyData := .list (tab n fun j => optD (r j))
def tabD (n : Nat) (M : Tab) : PyData := .list (tab n fun i => rowD n (M i))
theorem dpAll_of {K : PySem.W.Frag} {H : Hp} : ∀ {vs : List V} {ds : List PyData}, vs.length = ds.length → (∀ (i : Nat) v d, vs[i]? = some v → ds[i]? = some d → Dp K H v d) → DpAll K H vs ds
  | [], [], _, _ => .nil
  | [], _ :: _, h, _ => by simp at h
  | _ :: _, [], h, _ => by simp at h
  | v :: vs, d :: ds, h, k => .cons (k 0 v d rfl rfl) (dpAll_of (by simpa using h) fun i v' d' a b => k (i + 1) v' d' (by simpa using a) (by simpa using b))
theorem opt_dp {K : PySem.W.Frag} {H : Hp} (o : Option Int) : Dp K H (optV o) (optD o) := by
  cases o with
  | none => exact .non
  | some m => exact .int m
theorem TAt.dp {K : PySem.W.Frag} {H : Hp} {t : Addr} {n : Nat} {M : Tab} (h : TAt H t n M) : Dp K H (.ref t) (tabD n M) := by
  obtain ⟨rows, ht, hr⟩ := h
  refine .lst (SqL.of ht) (dpAll_of (by rw [List.length_map, hr.len, tab_len]) fun i v d hv hd => ?_)
  rw [List.getElem?_map] at hv
  obtain ⟨r, hri, rfl⟩ := Option.map_eq_some_iff.mp hv
  have hi : i < n := by
    rw [← hr.len]
    exact (List.getElem?_eq_some_iff.mp hri).1
  rw [tab_get hi] at hd
  cases hd
  refine .lst (SqL.of (hr.at_ i r hri)) (dpAll_of (by rw [tab_len, tab_len]) fun j v d hv hd => ?_)
  have hj : j < n := by
    have := (List.getElem?_eq_some_iff.mp hv).1
    rwa [tab_len] at this
  rw [tab_get hj] at hv hd
  cases hv
  cases hd
  exact opt_dp _
theorem can_all : ∀ {ds : List PyData}, (∀ d ∈ ds, PyData.canLay0 d = true) → PyData.canLayAll0 ds = true
  | [], _ => by simp [PyData.canLayAll0]
  | d :: ds, h => by
    simp only [PyData.canLayAll0, h d (List.mem_cons_self ..), can_all fun x hx => h x (List.mem_cons_of_mem _ hx), Bool.and_self]
theorem depth_all {k : Nat} : ∀ {ds : List PyData}, (∀ d ∈ ds, PyData.depth d ≤ k) → PyData.depthAll ds ≤ k
  | [], _ => by simp [PyData.depthAll]
  | d :: ds, h => by
    have h1 := h d (List.mem_cons_self ..)
    have h2 := depth_all fun x hx => h x (List.mem_cons_of_mem _ hx)
    simp only [PyData.depthAll]
    omega
theorem tab_mem {α : Type} {n : Nat} {f : Nat → α} {x : α} (h : x ∈ tab n f) : ∃ i, i < n ∧ x = f i := by
  unfold tab at h
  obtain ⟨i, hi, e⟩ := List.mem_map.mp h
  exact ⟨i, List.mem_range.mp hi, e.symm⟩
theorem opt_can (o : Option Int) : PyData.canLay0 (optD o) = true := by cases o <;> simp [optD, PyData.canLay0]
theorem opt_depth (o : Option Int) : PyData.depth (optD o) ≤ 0 := by cases o <;> simp [optD, PyData.depth]
theorem row_can (n : Nat) (r : Nat → Option Int) : PyData.canLay0 (rowD n r) = true := by
  have : PyData.canLay0 (rowD n r) = PyData.canLayAll0 (tab n fun j => optD (r j)) := by simp [rowD, PyData.canLay0]
  rw [this]
  refine can_all fun d hd => ?_
  obtain ⟨i, _, rfl⟩ := tab_mem hd
  exact opt_can _
theorem row_depth (n : Nat) (r : Nat → Option Int) : PyData.depth (rowD n r) ≤ 1 := by
  have : PyData.depth (rowD n r) = PyData.depthAll (tab n fun j => optD (r j)) + 1 := by simp [rowD, PyData.depth]
  rw [this]
  have := depth_all (k := 0) (ds := tab n fun j => optD (r j)) fun d hd => by
    obtain ⟨i, _, rfl⟩ := tab_mem hd
    exact opt_depth _
  omega
theorem tab_shaped (n : Nat) (M : Tab) : SeqAt.shaped (tabD n M) = true := by
  unfold SeqAt.shaped
  have h1 : PyData.canLay0 (tabD n M) = PyData.canLayAll0 (tab n fun i => rowD n (M i)) := by simp [tabD, PyData.canLay0]
  have h2 : PyData.depth (tabD n M) = PyData.depthAll (tab n fun i => rowD n (M i)) + 1 := by simp [tabD, PyData.depth]
  have h3 := depth_all (k := 1) (ds := tab n fun i => rowD n (M i)) fun d hd => by
    obtain ⟨i, _, rfl⟩ := tab_mem hd
    exact row_depth _ _
  rw [Bool.and_eq_true]
  refine ⟨?_, decide_eq_true (by omega)⟩
  rw [h1]
  refine can_all fun d hd => ?_
  obtain ⟨i, _, rfl⟩ := tab_mem hd
  exact row_can _ _
theorem tab_eqv {n : Nat} {M M' : Tab} (h : ∀ p q, p < n → q < n → M p q = M' p q) : PyData.eqv (tabD n M) (tabD n M') = true := by
  have e : tabD n M = tabD n M' := by
    unfold tabD
    refine congrArg PyData.list (tab_congr fun i hi => ?_)
    unfold rowD
    exact congrArg PyData.list (tab_congr fun j hj => by rw [h i j hi hj])
  rw [← e]
  have hs := tab_shaped n M
  unfold SeqAt.shaped at hs
  rw [Bool.and_eq_true] at hs
  exact PySem.SeqAt.eqv_refl _ hs.1
theorem _root_.L2.Room.u65 {k : Nat} {A : Around} (r : Room k A) : A.units + 65 < cLine := by
  have := r.un
  omega
/-! ### lists of ints by place -/
theorem iL_getD {xs : List Int} {j : Nat} (h : j < xs.length) : atI (xs.map V.int) (j : Int) = some (.int (xs.getD j 0)) := by
  refine atI_nat ?_
  rw [List.getElem?_map, List.getElem?_eq_getElem h, List.getD_eq_getElem?_getD, List.getElem?_eq_getElem h]
  rfl
theorem iL_getD' {xs : List Int} {z : Int} {j : Nat} (e : z = (j : Int)) (h : j < xs.length) : atI (xs.map V.int) z = some (.int (xs.getD j 0)) := by
  rw [e]
  exact iL_getD h
end K20

namespace K20
/-! ### the way round: n literals, each from a point to the next one -/
def psum (s : Nat → Int) : Nat → Int
  | 0 => 0
  | k + 1 => psum s k + s k
def cyc (n : Nat) (s : Nat → Int) (k : Nat) : Lit := ⟨k, (k + 1) % n, s k⟩
theorem psum_small {n : Nat} {s : Nat → Int} (hs : ∀ k, k + 1 < n → -4 ≤ s k ∧ s k ≤ 4) : ∀ k, k < n → -(4 * (k : Int)) ≤ psum s k ∧ psum s k ≤ 4 * (k : Int)
  | 0, _ => by simp [psum]
  | k + 1, h => by
    have h1 := psum_small hs k (by omega)
    have h2 := hs k h
    show -(4 * ((k + 1 : Nat) : Int)) ≤ psum s k + s k ∧ psum s k + s k ≤ 4 * ((k + 1 : Nat) : Int)
    omega
theorem cyc_feas {n : Nat} {s : Nat → Int} (hn : 1 < n) (hn2 : n ≤ 80) (hs : ∀ k, k + 1 < n → -4 ≤ s k ∧ s k ≤ 4) (h0 : psum s n = 0) {L : List Lit}
    (hL : ∀ e ∈ L, (∃ k, k < n ∧ e = cyc n s k) ∨ (e.a < n ∧ e.b < n ∧ 4 * (n : Int) + 400 ≤ e.c)) : Feas L := by
  refine ⟨fun k => -psum s k, fun e he => ?_⟩
  rcases hL e he with ⟨k, hk, rfl⟩ | ⟨ha, hb, hc⟩
  · show -psum s k - -psum s ((k + 1) % n) ≤ s k
    by_cases hl : k + 1 < n
    · rw [Nat.mod_eq_of_lt hl]
      show -psum s k - -(psum s k + s k) ≤ s k
      omega
    · have e1 : k + 1 = n := by omega
      rw [e1, Nat.mod_self]
      have e2 : psum s n = psum s k + s k := by rw [← e1]; rfl
      show -psum s k - -(0 : Int) ≤ s k
      omega
  · have h1 := psum_small hs e.a ha
    have h2 := psum_small hs e.b hb
    show -psum s e.a - -psum s e.b ≤ e.c
    omega
theorem cyc_bad {n : Nat} {s : Nat → Int} (hn : 1 < n) (h1 : psum s n < 0) {L : List Lit} (hL : ∀ k, k < n → cyc n s k ∈ L) : ¬ Feas L := by
  rintro ⟨x, hx⟩
  have key : ∀ k, k < n → x 0 - x k ≤ psum s k := by
    intro k
    induction k with
    | zero =>
      intro _
      show x 0 - x 0 ≤ 0
      omega
    | succ k ih =>
      intro h
      have a := ih (by omega)
      have b := hx _ (hL k (by omega))
      have b : x k - x ((k + 1) % n) ≤ s k := b
      rw [Nat.mod_eq_of_lt h] at b
      show x 0 - x (k + 1) ≤ psum s k + s k
      omega
  obtain ⟨m, rfl⟩ : ∃ m, n = m + 1 := ⟨n - 1, by omega⟩
  have a := key m (by omega)
  have b := hx _ (hL m (by omega))
  have b : x m - x ((m + 1) % (m + 1)) ≤ s m := b
  rw [Nat.mod_self] at b
  have c : psum s (m + 1) = psum s m + s m := rfl
  omega
end K20

namespace K20
open PySem L2
section
variable {P : Program} {w : World} {K : PySem.W.Frag} {mg : Str → Option Value} {base : Heap} {C : Addr} {tk : Tok}
/-! check_points: slots 0=n; cells []; calls []; methods [] -/
abbrev s_check_points : Stmt := top 6
theorem sc_check_points : FnScope ["n"] ["n"] (defScope s_check_points) := ⟨rfl, rfl, rfl, by decide +kernel, rfl, by decide +kernel, by decide +kernel⟩
def sp_check_points : Sp := fun vs H Q _ => ∃ n : Int, vs = [.int n] ∧ 1 ≤ n ∧ n ≤ 80 ∧ Q .non H
theorem ok_check_points {f : Addr} {fd : FuncData} (F : Fun K "check_points" "check_points" s_check_points f fd) (T : Txt K mg C tk) : FnOk P w K mg base CX0 1 f fd ["n"] sp_check_points := by
  refine F.ok sc_check_points (fun vs H Q E h => ?_) (fun cdv A outer s H vs Q E hr h => ?_)
  · obtain ⟨n, rfl, _⟩ := h
    rfl
  · obtain ⟨n, rfl, h1, h2, q⟩ := h
    refine ⟨_, (pss_one (ps_if (PW.pt (pw_or (pt_cmpR op_lt (pv 0) pe_int (nomark _)) (pw_or1 (pt_cmpR op_gt (pv 0) (pe_glob (v := .int 80) rfl T.gMAX ⟨_, rfl⟩) (nomark _)))))
      (pss_one ps_never)
      pss_nil)), ?_⟩
    refine ⟨_, rfl, _, _, rfl, rfl, _, rfl, ?_⟩
    rw [decide_eq_false (by omega)]
    refine iteF ⟨_, rfl, _, _, rfl, rfl, _, rfl, ?_⟩
    rw [decide_eq_false (by omega)]
    exact iteF q
/-! check_point: slots 0=n 1=a; cells []; calls []; methods [] -/
abbrev s_check_point : Stmt := top 7
theorem sc_check_point : FnScope ["n", "a"] ["n", "a"] (defScope s_check_point) := ⟨rfl, rfl, rfl, by decide +kernel, rfl, by decide +kernel, by decide +kernel⟩
def sp_check_point : Sp := fun vs H Q _ => ∃ n a : Int, vs = [.int n, .int a] ∧ 0 ≤ a ∧ a < n ∧ Q .non H
theorem ok_check_point {f : Addr} {fd : FuncData} (F : Fun K "check_point" "check_point" s_check_point f fd) (T : Txt K mg C tk) : FnOk P w K mg base CX0 1 f fd ["n", "a"] sp_check_point := by
  refine F.ok sc_check_point (fun vs H Q E h => ?_) (fun cdv A outer s H vs Q E hr h => ?_)
  · obtain ⟨n, a, rfl, _⟩ := h
    rfl
  · obtain ⟨n, a, rfl, h1, h2, q⟩ := h
    refine ⟨_, (pss_one (ps_if (PW.pt (pw_or (pt_cmpR op_lt (pv 1) pe_int (nomark _)) (pw_or1 (pt_cmpR op_ge (pv 1) (pv 0) (nomark _)))))
      (pss_one ps_never)
      pss_nil)), ?_⟩
    refine ⟨_, rfl, _, _, rfl, rfl, _, rfl, ?_⟩
    rw [decide_eq_false (by omega)]
    refine iteF ⟨_, rfl, _, rfl, _, _, rfl, rfl, _, rfl, ?_⟩
    rw [decide_eq_false (by omega)]
    exact iteF q
/-! check_literals: slots 0=n 1=literals 2=a 3=b 4=_; cells []; calls ['check_point', 'check_points']; methods [] -/
abbrev s_check_literals : Stmt := top 8
theorem sc_check_literals : FnScope ["n", "literals", "a", "b", "_"] ["n", "literals"] (defScope s_check_literals) := ⟨rfl, rfl, rfl, by decide +kernel, rfl, by decide +kernel, by decide +kernel⟩
def sp_check_literals (K : PySem.W.Frag) : Sp := fun vs H Q _ => ∃ (n : Nat) (l : Addr) (lvs : List V) (L : List Lit), vs = [.int n, .ref l] ∧ 1 ≤ n ∧ n ≤ 80 ∧ SqL K H l lvs ∧ Lits K H lvs L ∧ Pts n L ∧ Q .non H
theorem ok_check_literals {f : Addr} {fd : FuncData} (F : Fun K "check_literals" "check_literals" s_check_literals f fd) (T : Txt K mg C tk)
    (ccheck_points : Cal P w K mg base "check_points" ["n"] 1 sp_check_points) (ccheck_point : Cal P w K mg base "check_point" ["n", "a"] 1 sp_check_point) :
    FnOk P w K mg base CX0 2 f fd ["n", "literals"] (sp_check_literals K) := by
  refine F.ok sc_check_literals (fun vs H Q E h => ?_) (fun cdv A outer s H vs Q E hr h => ?_)
  · obtain ⟨n, l, lvs, L, rfl, _⟩ := h
    rfl
  · obtain ⟨n, l, lvs, L, rfl, h1, h2, hl, hL, hp, q⟩ := h
    refine ⟨_, (pss_cons (ps_expr (pe_call ccheck_points.ok (hr.mono (by decide)) (by rfl) ccheck_points.mg ccheck_points.kp ccheck_points.b .nil pass0 (pa_cons (pv 0) pa_nil)))
      (pss_one (ps_for PassesOwn.never rfl (pi_list (pv 1)) (pg_tup rfl (pgs_cons (pg_name (i := 2) sc_check_literals.nd rfl (Or.inl rfl)) (pgs_cons (pg_name (i := 3) sc_check_literals.nd rfl (Or.inl rfl)) (pgs_cons (pg_name (i := 4) sc_check_literals.nd rfl (Or.inl rfl)) pgs_nil))))
      (pss_cons (ps_expr (pe_call ccheck_point.ok (hr.mono (by decide)) (by rfl) ccheck_point.mg ccheck_point.kp ccheck_point.b .nil pass0 (pa_cons (pv 0) (pa_cons (pv 2) pa_nil))))
        (pss_one (ps_expr (pe_call ccheck_point.ok (hr.mono (by decide)) (by rfl) ccheck_point.mg ccheck_point.kp ccheck_point.b .nil pass0 (pa_cons (pv 0) (pa_cons (pv 3) pa_nil))))))))), ?_⟩
    refine ⟨_, rfl, (n : Int), rfl, by omega, by omega, ?_⟩
    refine ⟨_, rfl, l, rfl, ⟨lvs, hl⟩, for_list (K := K) (a := l) (xs := lvs) (fun i σ H' => H' = H ∧ ∃ x y z, σ = [some (.int n), some (.ref l), x, y, z]) ⟨rfl, _, _, _, rfl⟩ (fun i σ H' _ h => by rw [h.1]; exact hl) ?_ ?_⟩
    · rintro i v σ H' hi ⟨rfl, x, y, z, rfl⟩
      obtain ⟨t, e, rfl, he, ht⟩ := hL.at_ i v hi
      obtain ⟨ha, hb⟩ := hp e (List.mem_of_getElem? he)
      refine ⟨t, litV e, rfl, ht, rfl, _, _, rfl, _, _, rfl, _, _, rfl, rfl, ?_⟩
      refine ⟨_, rfl, _, rfl, (n : Int), (e.a : Int), rfl, by omega, by omega, ?_⟩
      refine ⟨_, rfl, _, rfl, (n : Int), (e.b : Int), rfl, by omega, by omega, ?_⟩
      exact ⟨rfl, _, _, _, rfl⟩
    · rintro σ H' ⟨rfl, _⟩
      exact q
/-! joined: slots 0=first 1=second; cells []; calls []; methods [] -/
abbrev s_joined : Stmt := top 15
theorem sc_joined : FnScope ["first", "second"] ["first", "second"] (defScope s_joined) := ⟨rfl, rfl, rfl, by decide +kernel, rfl, by decide +kernel, by decide +kernel⟩
def sp_joined : Sp := fun vs H Q _ => ∃ (o : Option Int) (c : Int), vs = [optV o, .int c] ∧ Q (optV (o.map (· + c))) H
theorem ok_joined {f : Addr} {fd : FuncData} (F : Fun K "joined" "joined" s_joined f fd) (T : Txt K mg C tk) : FnOk P w K mg base CX0 1 f fd ["first", "second"] sp_joined := by
  refine F.ok sc_joined (fun vs H Q E h => ?_) (fun cdv A outer s H vs Q E hr h => ?_)
  · obtain ⟨o, c, rfl, _⟩ := h
    rfl
  · obtain ⟨o, c, rfl, q⟩ := h
    refine ⟨_, (pss_cons (ps_if (PW.pt (pw_or (pt_cmpR op_isN (pv 0) pe_non (nomark _)) (pw_or1 (pt_cmpR op_isN (pv 1) pe_non (nomark _)))))
      (pss_one (ps_ret pe_non))
      pss_nil)
      (pss_one (ps_ret (pe_op op_add (pv 0) (pv 1))))), ?_⟩
    cases o with
    | none =>
      refine ⟨_, rfl, rfl, _, rfl, ?_⟩
      exact iteT (iteT q)
    | some m =>
      refine ⟨_, rfl, rfl, _, rfl, ?_⟩
      refine iteF ⟨_, rfl, rfl, _, rfl, ?_⟩
      refine iteF ⟨_, rfl, _, rfl, _, _, rfl, rfl, q⟩
/-! is_less: slots 0=first 1=second; cells []; calls []; methods [] -/
abbrev s_is_less : Stmt := top 16
theorem sc_is_less : FnScope ["first", "second"] ["first", "second"] (defScope s_is_less) := ⟨rfl, rfl, rfl, by decide +kernel, rfl, by decide +kernel, by decide +kernel⟩
def sp_is_less : Sp := fun vs H Q _ => ∃ o o' : Option Int, vs = [optV o, optV o'] ∧ Q (.bl (lessO o o')) H
theorem ok_is_less {f : Addr} {fd : FuncData} (F : Fun K "is_less" "is_less" s_is_less f fd) (T : Txt K mg C tk) : FnOk P w K mg base CX0 1 f fd ["first", "second"] sp_is_less := by
  refine F.ok sc_is_less (fun vs H Q E h => ?_) (fun cdv A outer s H vs Q E hr h => ?_)
  · obtain ⟨o, o', rfl, _⟩ := h
    rfl
  · obtain ⟨o, o', rfl, q⟩ := h
    refine ⟨_, (pss_one (ps_ret (pe_and (pe_cmpR op_notN (pv 0) pe_non (nomark _)) (pe_one (pe_or (pe_cmpR op_isN (pv 1) pe_non (nomark _)) (pe_one (pe_cmpR op_lt (pv 0) (pv 1) (nomark _)))))))), ?_⟩
    cases o with
    | none => exact ⟨_, rfl, rfl, _, rfl, iteF q⟩
    | some m =>
      refine ⟨_, rfl, rfl, _, rfl, iteT ?_⟩
      cases o' with
      | none => exact ⟨_, rfl, rfl, _, rfl, iteT q⟩
      | some m' => exact ⟨_, rfl, rfl, _, rfl, iteF ⟨_, rfl, _, rfl, _, _, rfl, rfl, q⟩⟩
end
end K20

namespace K20
open PySem L2
section
variable {P : Program} {w : World} {K : PySem.W.Frag} {mg : Str → Option Value} {base : Heap} {C : Addr} {tk : Tok}
/-! moved: slots 0=values 1=value; cells ['values']; calls []; methods [] -/
abbrev s_moved : Stmt := top 17
theorem sc_moved : FnScope ["values", "value"] ["values"] (defScope s_moved) := ⟨rfl, rfl, rfl, by decide +kernel, rfl, by decide +kernel, by decide +kernel⟩
def sp_moved (K : PySem.W.Frag) : Sp := fun vs H Q _ => ∃ (l : Addr) (n : Nat) (v : Nat → Int), vs = [.ref l] ∧ SqL K H l (iT n v) ∧ 1 ≤ n ∧ n ≤ 80 ∧ ∀ H' t, Same H H' → H' t = some (.tup (iT n fun i => v i - v 0)) → Q (.ref t) H'
theorem ok_moved {f : Addr} {fd : FuncData} (F : Fun K "moved" "moved" s_moved f fd) (T : Txt K mg C tk) : FnOk P w K mg base CX0 1 f fd ["values"] (sp_moved K) := by
  refine F.ok sc_moved (fun vs H Q E h => ?_) (fun cdv A outer s H vs Q E hr h => ?_)
  · obtain ⟨l, n, v, rfl, _⟩ := h
    rfl
  · obtain ⟨l, n, v, rfl, hl, h1, h2, q⟩ := h
    refine ⟨_, (pss_one (ps_ret (pe_callTy call_tuple_of (by rfl) T.tuple (by decide +kernel) (pa_cons (pe_lc (own := [("value", 1)]) rfl sc_moved.nd (pi_list (pv 0)) (blkOk_by (own := [("value", 1)]) (N := ["values", "value"]) (sc := defScope s_moved) (by decide +kernel)) (fun _ _ _ _ _ => (pg_name (i := 1) sc_moved.nd rfl (Or.inl rfl) (.inr rfl))) (fun _ _ _ _ _ => pts_nil) (fun _ _ _ _ _ => (pe_op op_sub (pv 1) (pe_ix (ixL (K := K)) (pv 0) pe_int (fun _ _ => rfl))))) pa_nil)))), ?_⟩
    refine ⟨_, rfl, l, rfl, ⟨_, hl⟩, fun D hD => lc_list (K := K) (a := l) (xs := iT n v) (PvT H D fun i => .int (v i - v 0)) (PvT.start hD) (fun i H' _ h => h.1.seq hl) ?_ ?_⟩
    · rintro i x H' hi h
      have hin : i < n := by
        have := (List.getElem?_eq_some_iff.mp hi).1
        rwa [tab_len] at this
      rw [tab_get hin] at hi
      cases hi
      refine ⟨rfl, _, rfl, _, rfl, l, _, 0, _, rfl, rfl, h.1.seq hl, tab_at (i := 0) (by omega), _, _, rfl, rfl, ?_⟩
      exact h.next hD (by omega) (Same.refl _) rfl
    · rintro H' h
      rw [tab_len] at h
      refine ⟨D, _, rfl, .inl ⟨SqL.of h.2, fun t ht => ?_⟩⟩
      exact q _ t (h.1.trans (Same.upd ht)) upd_same
/-! satisfies: slots 0=values 1=literals 2=a 3=b 4=c; cells ['values']; calls []; methods [] -/
abbrev s_satisfies : Stmt := top 9
theorem sc_satisfies : FnScope ["values", "literals", "a", "b", "c"] ["values", "literals"] (defScope s_satisfies) := ⟨rfl, rfl, rfl, by decide +kernel, rfl, by decide +kernel, by decide +kernel⟩
def sp_satisfies (K : PySem.W.Frag) : Sp := fun vs H Q _ => ∃ (a l : Addr) (n : Nat) (x : Nat → Int) (lvs : List V) (L : List Lit), vs = [.ref a, .ref l] ∧ SqT K H a (iT n x) ∧ SqL K H l lvs ∧ Lits K H lvs L ∧ Pts n L ∧ L.length ≤ 500 ∧ Sat x L ∧ ∀ H', Same H H' → Q (.bl true) H'
theorem ok_satisfies {f : Addr} {fd : FuncData} (F : Fun K "satisfies" "satisfies" s_satisfies f fd) (T : Txt K mg C tk) : FnOk P w K mg base CX0 1 f fd ["values", "literals"] (sp_satisfies K) := by
  refine F.ok sc_satisfies (fun vs H Q E h => ?_) (fun cdv A outer s H vs Q E hr h => ?_)
  · obtain ⟨a, l, n, x, lvs, L, rfl, _⟩ := h
    rfl
  · obtain ⟨a, l, n, x, lvs, L, rfl, ha, hl, hL, hp, hn, hx, q⟩ := h
    refine ⟨_, (pss_one (ps_ret (pe_callB (cr_all rfl) (by rfl) T.all (by decide +kernel) (pa_cons (pe_lc (own := [("a", 2), ("b", 3), ("c", 4)]) rfl sc_satisfies.nd (pi_list (pv 1)) (blkOk_by (own := [("a", 2), ("b", 3), ("c", 4)]) (N := ["values", "literals", "a", "b", "c"]) (sc := defScope s_satisfies) (by decide +kernel)) (fun _ _ _ _ _ => (pg_tupK (K := K) (n := 3) rfl rfl (pgs_cons (pg_name (i := 2) sc_satisfies.nd rfl (Or.inl rfl) (.inr rfl)) (pgs_cons (pg_name (i := 3) sc_satisfies.nd rfl (Or.inl rfl) (.inr rfl)) (pgs_cons (pg_name (i := 4) sc_satisfies.nd rfl (Or.inl rfl) (.inr rfl)) pgs_nil))))) (fun _ _ _ _ _ => pts_nil) (fun _ _ _ _ _ => (pe_cmpR op_le (pe_op op_sub (pe_ix (ixT (K := K)) (pv 0) (pv 2) (fun _ _ => rfl)) (pe_ix (ixT (K := K)) (pv 0) (pv 3) (fun _ _ => rfl))) (pv 4) (nomark _)))) pa_nil)))), ?_⟩
    refine ⟨_, rfl, l, rfl, ⟨_, hl⟩, fun D hD => lc_list (K := K) (a := l) (xs := lvs) (PvT H D fun i => .bl true) (PvT.start hD) (fun i H' _ h => h.1.seq hl) ?_ ?_⟩
    · rintro i v H' hi h
      have hin : i < lvs.length := (List.getElem?_eq_some_iff.mp hi).1
      obtain ⟨t, e, rfl, he, ht⟩ := hL.at_ i v hi
      obtain ⟨h1, h2⟩ := hp e (List.mem_of_getElem? he)
      refine ⟨t, litV e, rfl, h.1.tup ht, rfl, _, _, rfl, _, _, rfl, _, _, rfl, rfl, rfl, ?_⟩
      refine ⟨_, rfl, _, rfl, a, _, (e.a : Int), _, rfl, rfl, h.1.tup ha, tab_at h1, _, rfl, _, rfl, a, _, (e.b : Int), _, rfl, rfl, h.1.tup ha, tab_at h2, _, _, rfl, rfl, _, rfl, _, _, rfl, rfl, ?_⟩
      exact h.next hD (by rw [hL.len] at hin; omega) (Same.refl _) (congrArg V.bl (decide_eq_true (hx e (List.mem_of_getElem? he))))
    · rintro H' h
      refine ⟨D, tab lvs.length fun _ => true, rfl, .inl (.inl ?_), ?_⟩
      · rw [tab_map]
        exact h.2
      · rw [tab_all fun _ _ => rfl]
        exact q _ h.1
/-! is_ring: slots 0=ring 1=_ 2=c 3=at; cells ['ring']; calls []; methods [] -/
abbrev s_is_ring : Stmt := top 10
theorem sc_is_ring : FnScope ["ring", "_", "c", "at"] ["ring"] (defScope s_is_ring) := ⟨rfl, rfl, rfl, by decide +kernel, rfl, by decide +kernel, by decide +kernel⟩
def sp_is_ring (K : PySem.W.Frag) : Sp := fun vs H Q _ => ∃ (r : Addr) (rvs : List V) (es : List Lit), vs = [.ref r] ∧ SqT K H r rvs ∧ Lits K H rvs es ∧ es.length ≤ 500 ∧ Ring es ∧ ∀ H', Same H H' → Q (.bl true) H'
theorem ok_is_ring {f : Addr} {fd : FuncData} (F : Fun K "is_ring" "is_ring" s_is_ring f fd) (T : Txt K mg C tk) : FnOk P w K mg base CX0 1 f fd ["ring"] (sp_is_ring K) := by
  refine F.ok sc_is_ring (fun vs H Q E h => ?_) (fun cdv A outer s H vs Q E hr h => ?_)
  · obtain ⟨r, rvs, es, rfl, _⟩ := h
    rfl
  · obtain ⟨r, rvs, es, rfl, hr0, hL, hn, ⟨g1, g2, g3⟩, q⟩ := h
    have hlen : rvs.length ≠ 0 := fun z => g1 (List.length_eq_zero_iff.mp (by rw [← hL.len]; exact z))
    refine ⟨_, (pss_cons (ps_if (PW.pt (pw_or (pt_cmpR op_eq (pe_callB call_len_seq (by rfl) T.len PySem.boot_len (pa_cons (pv 0) pa_nil)) pe_int (nomark _)) (pw_or1 (pt_cmpR op_ge (pe_callB (cr_sum rfl) (by rfl) T.sum (by decide +kernel) (pa_cons (pe_lc (own := [("_", 1), ("c", 2)]) rfl sc_is_ring.nd (pi_tup (pv 0)) (blkOk_by (own := [("_", 1), ("c", 2)]) (N := ["ring", "_", "c", "at"]) (sc := defScope s_is_ring) (by decide +kernel)) (fun _ _ _ _ _ => (pg_tupK (K := K) (n := 3) rfl rfl (pgs_cons (pg_name (i := 1) sc_is_ring.nd rfl (Or.inl rfl) (.inr rfl)) (pgs_cons (pg_name (i := 1) sc_is_ring.nd rfl (Or.inl rfl) (.inr rfl)) (pgs_cons (pg_name (i := 2) sc_is_ring.nd rfl (Or.inl rfl) (.inr rfl)) pgs_nil))))) (fun _ _ _ _ _ => pts_nil) (fun _ _ _ _ _ => (pv 2))) pa_nil)) pe_int (nomark _)))))
      (pss_one (ps_ret pe_bl))
      pss_nil)
      (pss_one (ps_ret (pe_callB (cr_all rfl) (by rfl) T.all (by decide +kernel) (pa_cons (pe_lc (own := [("at", 3)]) rfl sc_is_ring.nd (pi_range1 rfl T.range (pa_cons (pe_callB call_len_seq (by rfl) T.len PySem.boot_len (pa_cons (pv 0) pa_nil)) pa_nil)) (blkOk_by (own := [("at", 3)]) (N := ["ring", "_", "c", "at"]) (sc := defScope s_is_ring) (by decide +kernel)) (fun _ _ _ _ _ => (pg_name (i := 3) sc_is_ring.nd rfl (Or.inl rfl) (.inr rfl))) (fun _ _ _ _ _ => pts_nil) (fun _ _ _ _ _ => (pe_cmpR op_eq (pe_ix (ixT (K := K)) (pe_ix (ixT (K := K)) (pv 0) (pv 3) (fun _ _ => rfl)) pe_int (fun _ _ => rfl)) (pe_ix (ixT (K := K)) (pe_ix (ixT (K := K)) (pv 0) (pe_op op_sub (pv 3) pe_int) (fun _ _ => rfl)) pe_int (fun _ _ => rfl)) (nomark _)))) pa_nil))))), ?_⟩
    refine ⟨_, rfl, r, _, rfl, .inr hr0, rfl, _, rfl, ?_⟩
    rw [decide_eq_false (fun z => hlen (by have := V.int.inj z; omega))]
    refine iteF ⟨_, rfl, r, rfl, ⟨_, hr0⟩, fun D hD => lc_tup (K := K) (a := r) (xs := rvs) (PvT H D fun i => .int ((es.map (·.c)).getD i 0)) (PvT.start hD) (fun i H' _ h => h.1.tup hr0) ?_ ?_⟩
    · rintro i v H' hi h
      have hin : i < rvs.length := (List.getElem?_eq_some_iff.mp hi).1
      obtain ⟨t, e, rfl, he, ht⟩ := hL.at_ i v hi
      refine ⟨t, litV e, rfl, h.1.tup ht, rfl, _, _, rfl, _, _, rfl, _, _, rfl, rfl, rfl, _, rfl, ?_⟩
      refine h.next hD (by rw [hL.len] at hin; omega) (Same.refl _) (congrArg V.int ?_)
      rw [List.getD_eq_getElem?_getD, List.getElem?_map, he]
      rfl
    · rintro H1 h
      have esum : tab rvs.length (fun i => (es.map (·.c)).getD i 0) = es.map (·.c) := by
        refine (tab_of (by rw [List.length_map, hL.len]) fun i x hx => ?_).symm
        rw [List.getD_eq_getElem?_getD, hx]
        rfl
      refine ⟨D, es.map (·.c), rfl, .inl (.inl ?_), _, _, rfl, rfl, _, rfl, ?_⟩
      · rw [← esum, tab_map]
        exact h.2
      · rw [decide_eq_false (show ¬ (0 : Int) ≤ (es.map (·.c)).sum from by have : (es.map (·.c)).sum < 0 := g2; omega)]
        refine iteF ?_
        have s1 := h.1
        refine ⟨_, rfl, r, _, rfl, .inr (s1.tup hr0), (rvs.length : Int), rfl, by have := hL.len; omega, by have := hL.len; omega, fun D2 hD2 => lc_range (lo := 0) (n := rvs.length) (PvT H1 D2 fun i => .bl true) (PvT.start hD2) ?_ ?_⟩
        · rintro i H' hi h'
          have hR : SqT K H' r rvs := h'.1.tup (s1.tup hr0)
          have hLs : Lits K H' rvs es := hL.same (s1.trans h'.1)
          have hi' : i < es.length := by rw [← hL.len]; exact hi
          obtain ⟨t, ht, tt⟩ := hLs.get (List.getElem?_eq_getElem hi')
          have hj : (if i = 0 then es.length - 1 else i - 1) < es.length := by split <;> omega
          obtain ⟨u, hu, tu⟩ := hLs.get (List.getElem?_eq_getElem hj)
          have ej := g3 i _ _ (List.getElem?_eq_getElem hi') (List.getElem?_eq_getElem hj)
          have au : atI rvs (0 + (i : Int) - 1) = some (.ref u) := by
            by_cases h0 : i = 0
            · subst h0
              rw [if_pos rfl, ← hL.len] at hu
              exact atI_back hu
            · rw [if_neg h0] at hu
              exact at_of (j := i - 1) (by omega) hu
          refine ⟨rfl, _, rfl, _, rfl, r, rvs, _, _, rfl, rfl, hR, at_of (by omega) ht, t, _, 0, _, rfl, rfl, tt, atI_nat (j := 0) rfl, ?_⟩
          refine ⟨_, rfl, _, rfl, _, _, rfl, rfl, r, rvs, _, _, rfl, rfl, hR, au, u, _, 1, _, rfl, rfl, tu, atI_nat (j := 1) rfl, rfl, ?_⟩
          exact h'.next hD2 (by omega) (Same.refl _) (congrArg V.bl (decide_eq_true (by rw [ej])))
        · rintro H' h'
          refine ⟨D2, tab rvs.length fun _ => true, rfl, .inl (.inl ?_), ?_⟩
          · rw [tab_map]
            exact h'.2
          · rw [tab_all fun _ _ => rfl]
            exact q _ (s1.trans h'.1)
end
end K20

namespace K20
open PySem L2
section
variable {P : Program} {w : World} {K : PySem.W.Frag} {mg : Str → Option Value} {base : Heap} {C : Addr} {tk : Tok}
/-! ring_at: slots 0=n 1=last 2=start 3=ring 4=at 5=_; cells []; calls []; methods [] -/
abbrev s_ring_at : Stmt := top 12
theorem sc_ring_at : FnScope ["n", "last", "start", "ring", "at", "_"] ["n", "last", "start"] (defScope s_ring_at) := ⟨rfl, rfl, rfl, by decide +kernel, rfl, by decide +kernel, by decide +kernel⟩
def sp_ring_at (K : PySem.W.Frag) : Sp := fun vs H Q _ => ∃ (n s : Nat) (l : Addr) (lv : Nat → V) (nx : Nat → Option Lit), vs = [.int n, .ref l, .int s] ∧ SqL K H l (tab n lv) ∧ n ≤ 80 ∧ s < n ∧
  (∀ p, p < n → LastV K H (lv p) (nx p)) ∧ (∀ p e, nx p = some e → e.b < n) ∧ (∀ H', Same H H' → Q .non H') ∧
  (∀ H' r rvs es, Same H H' → H' r = some (.tup rvs) → Lits K H' rvs es → Chain nx s es s → es ≠ [] → es.length ≤ n → Q (.ref r) H')
theorem ok_ring_at {f : Addr} {fd : FuncData} (F : Fun K "ring_at" "ring_at" s_ring_at f fd) (T : Txt K mg C tk) : FnOk P w K mg base CX0 1 f fd ["n", "last", "start"] (sp_ring_at K) := by
  refine F.ok sc_ring_at (fun vs H Q E h => ?_) (fun cdv A outer s H vs Q E hr h => ?_)
  · obtain ⟨n, s, l, lv, nx, rfl, _⟩ := h
    rfl
  · obtain ⟨n, s, l, lv, nx, rfl, hl, hn, hs, hlv, hb, q1, q2⟩ := h
    refine ⟨_, (pss_cons (ps_set (i := 3) sc_ring_at.nd rfl (Or.inl rfl) (pe_lst pa_nil))
      (pss_cons (ps_set (i := 4) sc_ring_at.nd rfl (Or.inl rfl) (pv 2))
      (pss_cons (ps_for PassesOwn.never rfl (pi_range1 rfl T.range (pa_cons (pv 0) pa_nil)) (pg_name (i := 5) sc_ring_at.nd rfl (Or.inl rfl))
      (pss_cons (ps_if (pt_cmpR op_isN (pe_ix (ixL (K := K)) (pv 1) (pv 4) (fun _ _ => rfl)) pe_non (nomark _))
        (pss_one (ps_ret pe_non))
        pss_nil)
        (pss_cons (ps_expr (pe_bm PySem.F.plainAttrs_list PySem.F.slot_list_append PySem.F.type_list_append mt_append (pv 3) (pa_cons (pe_ix (ixL (K := K)) (pv 1) (pv 4) (fun _ _ => rfl)) pa_nil)))
        (pss_cons (ps_set (i := 4) sc_ring_at.nd rfl (Or.inl rfl) (pe_ix (ixT (K := K)) (pe_ix (ixL (K := K)) (pv 1) (pv 4) (fun _ _ => rfl)) pe_int (fun _ _ => rfl)))
        (pss_one (ps_if (pt_cmpR op_eq (pv 4) (pv 2) (nomark _))
        (pss_one (ps_ret (pe_callTy call_tuple_of (by rfl) T.tuple (by decide +kernel) (pa_cons (pv 3) pa_nil))))
        pss_nil))))))
      (pss_one (ps_ret pe_non))))), ?_⟩
    refine ⟨Nat.zero_le _, fun D hD => ?_⟩
    refine ⟨_, rfl, ?_⟩
    refine ⟨_, rfl, (n : Int), rfl, by omega, by omega, for_range (lo := 0) (n := (n : Int).toNat) (fun i σ H' => ∃ (q : Nat) (y : Option V) (rvs : List V) (es : List Lit), σ = [some (.int n), some (.ref l), some (.int s), some (.ref D), some (.int q), y] ∧
      Same H H' ∧ H' D = some (.lst rvs) ∧ Lits K H' rvs es ∧ Chain nx s es q ∧ q < n ∧ es.length = i) ⟨s, none, [], [], rfl, Same.upd hD, upd_same, .nil, .nil, hs, rfl⟩ ?_ ?_⟩
    · rintro i σ H' hi ⟨q, y, rvs, es, rfl, sm, hDl, hLs, hc, hq, hlen⟩
      have hin : i < n := by omega
      have hl' : SqL K H' l (tab n lv) := sm.seq hl
      refine ⟨_, rfl, _, rfl, l, _, _, _, rfl, rfl, hl', tab_at hq, rfl, _, rfl, ?_⟩
      rcases (hlv q hq).same sm with ⟨e1, e2⟩ | ⟨t, e, e1, e2, e3⟩
      · rw [e1]
        exact iteT (q1 _ sm)
      · have hat : atI (tab n lv) (q : Int) = some (.ref t) := by
          rw [tab_at hq, e1]
        rw [e1]
        refine iteF ?_
        refine ⟨_, rfl, .inl ⟨rfl, _, SqL.of hDl⟩, _, rfl, _, rfl, l, _, _, _, rfl, rfl, hl', hat, D, rvs, _, rfl, rfl, hDl, small (by rw [hLs.len]; omega), ?_⟩
        have sm2 : Same H (upd H' D (.lst (rvs ++ [.ref t]))) := sm.poke hD
        have tt : SqT K (upd H' D (.lst (rvs ++ [.ref t]))) t (litV e) := tup_poke e3 hDl
        have hLs2 : Lits K (upd H' D (.lst (rvs ++ [.ref t]))) (rvs ++ [.ref t]) (es ++ [e]) := Lits.snoc (hLs.poke hDl) tt
        refine ⟨_, rfl, _, rfl, l, _, _, _, rfl, rfl, sm2.seq hl, hat, t, litV e, 1, _, rfl, rfl, tt, atI_nat (j := 1) rfl, ?_⟩
        refine ⟨_, rfl, _, rfl, rfl, _, rfl, ite2 (fun h => ?_) (fun h => ?_)⟩
        · have he : e.b = s := by
            have := V.int.inj (of_decide_eq_true h)
            omega
          refine ⟨_, rfl, D, _, rfl, .inl ⟨SqL.of upd_same, fun r hr => ?_⟩⟩
          have sm3 := Same.upd (o := .tup (rvs ++ [.ref t])) hr
          refine q2 _ r _ (es ++ [e]) (sm2.trans sm3) upd_same (hLs2.same sm3) ?_ (by simp) (by simp; omega)
          have hc2 := Chain.snoc hc e2
          rw [he] at hc2
          exact hc2
        · exact ⟨e.b, _, _, es ++ [e], rfl, sm2, upd_same, hLs2, .snoc hc e2, hb _ _ e2, by simp; omega⟩
    · rintro σ H' ⟨q, y, rvs, es, rfl, sm, _⟩
      exact q1 _ sm
/-! ring_from: slots 0=n 1=last 2=start 3=at 4=_ 5=ring; cells []; calls []; methods [] -/
abbrev s_ring_from : Stmt := top 13
theorem sc_ring_from : FnScope ["n", "last", "start", "at", "_", "ring"] ["n", "last", "start"] (defScope s_ring_from) := ⟨rfl, rfl, rfl, by decide +kernel, rfl, by decide +kernel, by decide +kernel⟩
def sp_ring_from (K : PySem.W.Frag) : Sp := fun vs H Q _ => ∃ (n s : Nat) (l : Addr) (lv : Nat → V) (nx : Nat → Option Lit), vs = [.int n, .ref l, .int s] ∧ SqL K H l (tab n lv) ∧ n ≤ 80 ∧
  (∀ p, p < n → LastV K H (lv p) (nx p)) ∧ (∀ m, itr nx m s < n) ∧ (∀ m, ∃ e, nx (itr nx m s) = some e) ∧ (∃ r, 0 < r ∧ r ≤ n ∧ itr nx (r + n) s = itr nx n s) ∧
  (∀ H' r rvs es p, Same H H' → H' r = some (.tup rvs) → Lits K H' rvs es → Chain nx p es p → es ≠ [] → es.length ≤ n → Q (.ref r) H')
theorem itr_next {nx : Nat → Option Lit} {m s : Nat} {e : Lit} (h : nx (itr nx m s) = some e) : itr nx (m + 1) s = e.b := by
  show stp nx (itr nx m s) = e.b
  unfold stp
  rw [h]
theorem ok_ring_from {f : Addr} {fd : FuncData} (F : Fun K "ring_from" "ring_from" s_ring_from f fd) (T : Txt K mg C tk) : FnOk P w K mg base CX0 1 f fd ["n", "last", "start"] (sp_ring_from K) := by
  refine F.ok sc_ring_from (fun vs H Q E h => ?_) (fun cdv A outer s H vs Q E hr h => ?_)
  · obtain ⟨n, s, l, lv, nx, rfl, _⟩ := h
    rfl
  · obtain ⟨n, s, l, lv, nx, rfl, hl, hn, hlv, hi1, hi2, ⟨r, hr0, hrn, hper⟩, q⟩ := h
    -- what stands at the m-th point
    have look : ∀ m, ∃ t e, nx (itr nx m s) = some e ∧ SqT K H t (litV e) ∧ atI (tab n lv) ((itr nx m s : Nat) : Int) = some (.ref t) := fun m => by
      obtain ⟨e, he⟩ := hi2 m
      rcases hlv _ (hi1 m) with ⟨_, e2⟩ | ⟨t, e', e1, e2, e3⟩
      · rw [he] at e2
        cases e2
      · rw [he] at e2
        cases e2
        exact ⟨t, e, he, e3, by rw [tab_at (hi1 m), e1]⟩
    refine ⟨_, (pss_cons (ps_set (i := 3) sc_ring_from.nd rfl (Or.inl rfl) (pv 2))
      (pss_cons (ps_for PassesOwn.never rfl (pi_range1 rfl T.range (pa_cons (pv 0) pa_nil)) (pg_name (i := 4) sc_ring_from.nd rfl (Or.inl rfl))
      (pss_one (ps_set (i := 3) sc_ring_from.nd rfl (Or.inl rfl) (pe_ix (ixT (K := K)) (pe_ix (ixL (K := K)) (pv 1) (pv 3) (fun _ _ => rfl)) pe_int (fun _ _ => rfl)))))
      (pss_cons (ps_set (i := 5) sc_ring_from.nd rfl (Or.inl rfl) (pe_lst (pa_cons (pe_ix (ixL (K := K)) (pv 1) (pv 3) (fun _ _ => rfl)) pa_nil)))
      (pss_cons (ps_while PassesOwn.never (pt_cmpR op_ne (pe_ix (ixT (K := K)) (pe_ix (ixL (K := K)) (pv 5) (pe_un un_neg pe_int) (fun _ _ => rfl)) pe_int (fun _ _ => rfl)) (pv 3) (nomark _))
      (pss_one (ps_expr (pe_bm PySem.F.plainAttrs_list PySem.F.slot_list_append PySem.F.type_list_append mt_append (pv 5) (pa_cons (pe_ix (ixL (K := K)) (pv 1) (pe_ix (ixT (K := K)) (pe_ix (ixL (K := K)) (pv 5) (pe_un un_neg pe_int) (fun _ _ => rfl)) pe_int (fun _ _ => rfl)) (fun _ _ => rfl)) pa_nil)))))
      (pss_one (ps_ret (pe_callTy call_tuple_of (by rfl) T.tuple (by decide +kernel) (pa_cons (pv 5) pa_nil)))))))), ?_⟩
    refine ⟨_, rfl, ?_⟩
    refine ⟨_, rfl, (n : Int), rfl, by omega, by omega, for_range (lo := 0) (n := (n : Int).toNat) (fun i σ H' => H = H' ∧ ∃ (y z : Option V), σ = [some (.int n), some (.ref l), some (.int s), some (.int (itr nx i s : Nat)), y, z]) ⟨rfl, none, none, rfl⟩ ?_ ?_⟩
    · rintro i σ H' hi ⟨rfl, y, z, rfl⟩
      obtain ⟨t, e, he, ht, hat⟩ := look i
      refine ⟨_, rfl, _, rfl, l, _, _, _, rfl, rfl, hl, hat, t, litV e, 1, _, rfl, rfl, ht, atI_nat (j := 1) rfl, ?_⟩
      exact ⟨rfl, _, _, by rw [itr_next he]; rfl⟩
    · rintro σ H' ⟨rfl, y, z, rfl⟩
      rw [show (n : Int).toNat = n from by omega]
      obtain ⟨t, e, he, ht, hat⟩ := look n
      refine ⟨_, rfl, _, rfl, l, _, _, _, rfl, rfl, hl, hat, small' (by simp), fun D hD => ?_⟩
      refine ⟨fun m σ H' => ∃ (rvs : List V) (es : List Lit), σ = [some (.int n), some (.ref l), some (.int s), some (.int (itr nx n s : Nat)), y, some (.ref D)] ∧ Same H H' ∧ H' D = some (.lst rvs) ∧ Lits K H' rvs es ∧
        Chain nx (itr nx n s) es (itr nx (es.length + n) s) ∧ 0 < es.length ∧ es.length ≤ r ∧ m = r - es.length,
        ⟨r - 1, [.ref t], [e], rfl, Same.upd hD, upd_same, Lits.snoc .nil ((Same.upd hD).tup ht), ?_, by simp, by simp; omega, by simp⟩, ?_⟩
      · have e1 : itr nx (([e] : List Lit).length + n) s = e.b := by
          rw [show ([e] : List Lit).length + n = n + 1 from by simp; omega]
          exact itr_next he
        rw [e1]
        exact Chain.snoc (es := []) .nil he
      · rintro m σ H' ⟨rvs, es, rfl, sm, hDl, hLs, hc, h0, h1, rfl⟩
        have ne : es ≠ [] := fun z => by
          rw [z] at h0
          exact absurd h0 (Nat.lt_irrefl _)
        obtain ⟨g, hg, hgb⟩ := hc.last ne
        obtain ⟨u, hu, tu⟩ := hLs.get hg
        rw [← hLs.len] at hu
        refine ⟨_, rfl, 1, rfl, D, _, _, _, rfl, rfl, SqL.of hDl, atI_back hu, u, litV g, 1, _, rfl, rfl, tu, atI_nat (j := 1) rfl, _, rfl, rfl, _, rfl, ?_⟩
        by_cases hb : g.b = itr nx n s
        · rw [decide_eq_true (by rw [hb])]
          refine iteF ?_
          refine ⟨_, rfl, D, _, rfl, .inl ⟨SqL.of hDl, fun r' hr' => ?_⟩⟩
          have sm3 := Same.upd (o := .tup rvs) hr'
          refine q _ r' _ es (itr nx n s) (sm.trans sm3) upd_same (hLs.same sm3) ?_ ne (by omega)
          rw [← hgb, hb] at hc
          exact hc
        · rw [decide_eq_false (fun z => hb (by have := V.int.inj z; omega))]
          have hlt : es.length < r := by
            rcases Nat.lt_or_ge es.length r with z | z
            · exact z
            · have : es.length = r := by omega
              rw [this, hper] at hgb
              exact absurd hgb hb
          obtain ⟨t', e', he', ht', hat'⟩ := look (es.length + n)
          rw [← hgb] at hat'
          have sm2 : Same H (upd H' D (.lst (rvs ++ [.ref t']))) := sm.poke hD
          refine iteT ⟨fun σ' H'' => ∃ m', m' < r - es.length ∧ _, fun σ' H'' z => z, ?_⟩
          refine ⟨_, rfl, .inl ⟨rfl, _, SqL.of hDl⟩, _, rfl, _, rfl, 1, rfl, D, _, _, _, rfl, rfl, SqL.of hDl, atI_back hu, u, litV g, 1, _, rfl, rfl, tu, atI_nat (j := 1) rfl, l, _, _, _, rfl, rfl, sm.seq hl, hat', D, rvs, _, rfl, rfl, hDl, small (by rw [hLs.len]; omega), ?_⟩
          refine ⟨r - (es ++ [e']).length, by simp; omega, _, es ++ [e'], rfl, sm2, upd_same, ?_, ?_, by simp, by simp; omega, rfl⟩
          · exact Lits.snoc (hLs.poke hDl) (sm2.tup ht')
          · have e1 : itr nx ((es ++ [e']).length + n) s = e'.b := by
              rw [show (es ++ [e']).length + n = (es.length + n) + 1 from by simp; omega]
              exact itr_next he'
            rw [e1]
            exact .snoc hc he'
end
end K20

namespace K20
open PySem L2
section
variable {P : Program} {w : World} {K : PySem.W.Frag} {mg : Str → Option Value} {base : Heap} {C : Addr} {tk : Tok}
/-! find_ring: slots 0=n 1=literals 2=values 3=last 4=lowered 5=_ 6=literal 7=a 8=b 9=c 10=ring; cells []; calls ['check_literals', 'ring_at', 'ring_from']; methods [] -/
abbrev s_find_ring : Stmt := top 11
theorem sc_find_ring : FnScope ["n", "literals", "values", "last", "lowered", "_", "literal", "a", "b", "c", "ring"] ["n", "literals"] (defScope s_find_ring) := ⟨rfl, rfl, rfl, by decide +kernel, rfl, by decide +kernel, by decide +kernel⟩
def sp_find_ring (K : PySem.W.Frag) : Sp := fun vs H Q _ => ∃ (n : Nat) (l : Addr) (lvs : List V) (L : List Lit), vs = [.int n, .ref l] ∧ 1 ≤ n ∧ n ≤ 80 ∧ SqL K H l lvs ∧ Lits K H lvs L ∧ Pts n L ∧
  (Feas L → ∀ H', Same H H' → Q .non H') ∧ (∀ H' r rvs es, Same H H' → H' r = some (.tup rvs) → Lits K H' rvs es → Found L es → es.length ≤ 80 → Q (.ref r) H')
/-- the lists of find_ring at a point of the work -/
structure FRA (K : PySem.W.Frag) (H H' : Hp) (n : Nat) (A B : Addr) (v : Nat → Int) (lv : Nat → V) (nx : Nat → Option Lit) : Prop where
  sm : Same H H'
  hA : H' A = some (.lst (iT n v))
  hB : H' B = some (.lst (tab n lv))
  la : ∀ p, p < n → LastV K H' (lv p) (nx p)
def LowI (L : List Lit) (k j : Nat) (n : Nat) (v : Nat → Int) (R : Nat → Nat) (lw : V) : Prop :=
  (lw = .non ∧ ∀ (i : Nat) e, i < j → L[i]? = some e → v e.a ≤ v e.b + e.c) ∨ ∃ a : Nat, a < n ∧ lw = .int a ∧ R a = k
theorem ok_find_ring {f : Addr} {fd : FuncData} (F : Fun K "find_ring" "find_ring" s_find_ring f fd) (T : Txt K mg C tk)
    (ccheck_literals : Cal P w K mg base "check_literals" ["n", "literals"] 2 (sp_check_literals K)) (cring_at : Cal P w K mg base "ring_at" ["n", "last", "start"] 1 (sp_ring_at K)) (cring_from : Cal P w K mg base "ring_from" ["n", "last", "start"] 1 (sp_ring_from K)) :
    FnOk P w K mg base CX0 3 f fd ["n", "literals"] (sp_find_ring K) := by
  refine F.ok sc_find_ring (fun vs H Q E h => ?_) (fun cdv A outer s H vs Q E hr h => ?_)
  · obtain ⟨n, l, lvs, L, rfl, _⟩ := h
    rfl
  · obtain ⟨n, l, lvs, L, rfl, h1, h2, hl, hL, hp, q1, q2⟩ := h
    refine ⟨_, (pss_cons (ps_expr (pe_call ccheck_literals.ok (hr.mono (by decide)) (by rfl) ccheck_literals.mg ccheck_literals.kp ccheck_literals.b .nil pass0 (pa_cons (pv 0) (pa_cons (pv 1) pa_nil))))
      (pss_cons (ps_set (i := 2) sc_find_ring.nd rfl (Or.inl rfl) (pe_op op_rep (pe_lst (pa_cons pe_int pa_nil)) (pv 0)))
      (pss_cons (ps_set (i := 3) sc_find_ring.nd rfl (Or.inl rfl) (pe_op op_rep (pe_lst (pa_cons pe_non pa_nil)) (pv 0)))
      (pss_cons (ps_set (i := 4) sc_find_ring.nd rfl (Or.inl rfl) pe_non)
      (pss_cons (ps_for PassesOwn.never rfl (pi_range1 rfl T.range (pa_cons (pe_op op_add (pv 0) pe_int) pa_nil)) (pg_name (i := 5) sc_find_ring.nd rfl (Or.inl rfl))
      (pss_cons (ps_set (i := 4) sc_find_ring.nd rfl (Or.inl rfl) pe_non)
        (pss_cons (ps_for PassesOwn.never rfl (pi_list (pv 1)) (pg_name (i := 6) sc_find_ring.nd rfl (Or.inl rfl))
        (pss_cons (ps_asg (pv 6) (pg_tup rfl (pgs_cons (pg_name (i := 7) sc_find_ring.nd rfl (Or.inl rfl)) (pgs_cons (pg_name (i := 8) sc_find_ring.nd rfl (Or.inl rfl)) (pgs_cons (pg_name (i := 9) sc_find_ring.nd rfl (Or.inl rfl)) pgs_nil)))))
          (pss_one (ps_if (pt_cmpR op_gt (pe_ix (ixL (K := K)) (pv 2) (pv 7) (fun _ _ => rfl)) (pe_op op_add (pe_ix (ixL (K := K)) (pv 2) (pv 8) (fun _ _ => rfl)) (pv 9)) (nomark _))
          (pss_cons (ps_asg (pe_op op_add (pe_ix (ixL (K := K)) (pv 2) (pv 8) (fun _ _ => rfl)) (pv 9)) (pg_sub (pv 2) (pv 7) set_list))
            (pss_cons (ps_asg (pv 6) (pg_sub (pv 3) (pv 7) set_list))
            (pss_one (ps_set (i := 4) sc_find_ring.nd rfl (Or.inl rfl) (pv 7)))))
          pss_nil))))
        (pss_cons (ps_if (pt_cmpR op_isN (pv 4) pe_non (nomark _))
        (pss_one (ps_ret pe_non))
        pss_nil)
        (pss_cons (ps_set (i := 10) sc_find_ring.nd rfl (Or.inl rfl) (pe_call cring_at.ok (hr.mono (by decide)) (by rfl) cring_at.mg cring_at.kp cring_at.b .nil pass0 (pa_cons (pv 0) (pa_cons (pv 3) (pa_cons (pv 4) pa_nil)))))
        (pss_one (ps_if (pt_cmpR op_notN (pv 10) pe_non (nomark _))
        (pss_one (ps_ret (pv 10)))
        pss_nil)))))))
      (pss_one (ps_ret (pe_call cring_from.ok (hr.mono (by decide)) (by rfl) cring_from.mg cring_from.kp cring_from.b .nil pass0 (pa_cons (pv 0) (pa_cons (pv 3) (pa_cons (pv 4) pa_nil))))))))))), ?_⟩
    refine ⟨_, rfl, _, rfl, n, l, lvs, L, rfl, h1, h2, hl, hL, hp, ?_⟩
    -- the two lists
    refine ⟨small' (by simp), fun A0 hA0 => ?_⟩
    refine ⟨_, rfl, A0, _, _, rfl, rfl, upd_same, by omega, by omega, small' (by simp; omega), fun A hA => ?_⟩
    refine ⟨small' (by simp), fun B0 hB0 => ?_⟩
    refine ⟨_, rfl, B0, _, _, rfl, rfl, upd_same, by omega, by omega, small' (by simp; omega), fun B hB => ?_⟩
    have sA0 : Same H (upd H A0 (.lst [V.int 0])) := Same.upd hA0
    have sA := sA0.trans (Same.upd (o := .lst (List.replicate (n : Int).toNat [V.int 0]).flatten) hA)
    have sB0 := sA.trans (Same.upd (o := .lst [V.non]) hB0)
    have sB := sB0.trans (Same.upd (o := .lst (List.replicate (n : Int).toNat [V.non]).flatten) hB)
    have hA' : H A = none := sA0.free hA
    have hB' : H B = none := sB0.free hB
    have hAB : A ≠ B := by
      refine ne_of_none (H := upd (upd (upd H A0 (.lst [V.int 0])) A (.lst (List.replicate (n : Int).toNat [V.int 0]).flatten)) B0 (.lst [V.non])) (o := .lst (List.replicate (n : Int).toNat [V.int 0]).flatten) ?_ hB
      rw [upd_ne (ne_of_none upd_same hB0), upd_same]
    have start : FRA K H (upd (upd (upd (upd H A0 (.lst [V.int 0])) A (.lst (List.replicate (n : Int).toNat [V.int 0]).flatten)) B0 (.lst [V.non])) B (.lst (List.replicate (n : Int).toNat [V.non]).flatten)) n A B (fun _ => 0) (fun _ => .non) (fun _ => none) := by
      refine ⟨sB, ?_, ?_, fun p _ => .inl ⟨rfl, rfl⟩⟩
      · rw [upd_ne hAB, upd_ne (ne_of_none upd_same hB0), upd_same, show (n : Int).toNat = n from by omega, iT_rep]
      · rw [upd_same, show (n : Int).toNat = n from by omega, tab_rep]
    generalize upd (upd (upd (upd H A0 (.lst [V.int 0])) A (.lst (List.replicate (n : Int).toNat [V.int 0]).flatten)) B0 (.lst [V.non])) B (.lst (List.replicate (n : Int).toNat [V.non]).flatten) = H1 at start ⊢
    -- the rounds
    refine ⟨_, rfl, _, _, rfl, rfl, (n : Int) + 1, rfl, by omega, by omega, for_range (lo := 0) (n := ((n : Int) + 1).toNat) (fun i σ H' => ∃ (v : Nat → Int) (lv : Nat → V) (nx : Nat → Option Lit) (R : Nat → Nat) (lw : V) (y5 y6 y7 y8 y9 y10 : Option V),
      σ = [some (.int n), some (.ref l), some (.ref A), some (.ref B), some lw, y5, y6, y7, y8, y9, y10] ∧ FRA K H H' n A B v lv nx ∧ FR n L (i + 1) 0 v nx R ∧ (i = 0 ∨ ∃ a : Nat, a < n ∧ lw = .int a ∧ R a = i))
      ⟨_, _, _, _, _, _, _, _, _, _, _, rfl, start, FR.init n L, .inl rfl⟩ ?_ ?_⟩
    · rintro i σ H' hi ⟨v, lv, nx, R, lw, y5, y6, y7, y8, y9, y10, rfl, fa, fr, _⟩
      -- one round
      refine ⟨_, rfl, l, rfl, ⟨_, fa.sm.seq hl⟩, for_list (K := K) (a := l) (xs := lvs) (fun j σ H' => ∃ (v : Nat → Int) (lv : Nat → V) (nx : Nat → Option Lit) (R : Nat → Nat) (lw : V) (y5 y6 y7 y8 y9 y10 : Option V),
        σ = [some (.int n), some (.ref l), some (.ref A), some (.ref B), some lw, y5, y6, y7, y8, y9, y10] ∧ FRA K H H' n A B v lv nx ∧ FR n L (i + 1) j v nx R ∧ LowI L (i + 1) j n v R lw)
        ⟨_, _, _, _, _, _, _, _, _, _, _, rfl, fa, fr, .inl ⟨rfl, fun _ _ h => absurd h (Nat.not_lt_zero _)⟩⟩ (fun j σ H' _ h => ?_) ?_ ?_⟩
      · obtain ⟨v, lv, nx, R, lw, y5, y6, y7, y8, y9, y10, rfl, fa, _⟩ := h
        exact fa.sm.seq hl
      · rintro j x σ H2 hj ⟨v, lv, nx, R, lw, y5, y6, y7, y8, y9, y10, rfl, fa, fr, low⟩
        obtain ⟨t, e, rfl, he, ht0⟩ := hL.at_ j x hj
        obtain ⟨ha, hb⟩ := hp e (List.mem_of_getElem? he)
        have ht := fa.sm.tup ht0
        have sqA : SqL K H2 A (iT n v) := SqL.of fa.hA
        refine ⟨_, rfl, t, litV e, rfl, ht, rfl, _, _, rfl, _, _, rfl, _, _, rfl, rfl, ?_⟩
        refine ⟨_, rfl, _, rfl, A, _, _, _, rfl, rfl, sqA, tab_at ha, _, rfl, _, rfl, A, _, _, _, rfl, rfl, sqA, tab_at hb, _, rfl, _, _, rfl, rfl, _, _, rfl, rfl, _, rfl, ?_⟩
        by_cases hv : v e.b + e.c < v e.a
        · rw [decide_eq_true hv]
          refine iteT ⟨_, rfl, _, rfl, A, _, _, _, rfl, rfl, sqA, tab_at hb, _, rfl, _, _, rfl, rfl, _, rfl, _, rfl, A, _, _, _, rfl, rfl, fa.hA, ixN_nat (by rw [tab_len]; exact ha), ?_⟩
          have hB2 : (upd H2 A (.lst ((iT n v).set e.a (.int (v e.b + e.c))))) B = some (.lst (tab n lv)) := by
            rw [upd_ne hAB.symm]
            exact fa.hB
          refine ⟨_, rfl, _, rfl, _, rfl, B, _, _, _, rfl, rfl, hB2, ixN_nat (by rw [tab_len]; exact ha), ?_⟩
          refine ⟨_, rfl, ?_⟩
          refine ⟨upF v e.a (v e.b + e.c), upF lv e.a (.ref t), upF nx e.a (some e), upF R e.a (i + 1), _, _, _, _, _, _, _, rfl, ⟨(fa.sm.poke hA').poke hB', ?_, ?_, fun p hp => ?_⟩, fr.lower he hv, .inr ⟨e.a, ha, rfl, upF_same⟩⟩
          · rw [upd_ne hAB, upd_same, iT_set]
          · rw [upd_same, tab_set]
          · by_cases hpa : p = e.a
            · subst hpa
              rw [upF_same, upF_same]
              exact .inr ⟨t, e, rfl, rfl, tup_poke (tup_poke ht fa.hA) hB2⟩
            · rw [upF_ne hpa, upF_ne hpa]
              exact ((fa.la p hp).poke fa.hA).poke hB2
        · rw [decide_eq_false hv]
          refine iteF ⟨v, lv, nx, R, lw, _, _, _, _, _, _, rfl, fa, fr.skip he hv, ?_⟩
          rcases low with ⟨e1, e2⟩ | low
          · refine .inl ⟨e1, fun i' e' hi' he' => ?_⟩
            by_cases hij : i' = j
            · subst hij
              rw [he] at he'
              cases he'
              omega
            · exact e2 i' e' (by omega) he'
          · exact .inr low
      · rintro σ H2 ⟨v, lv, nx, R, lw, y5, y6, y7, y8, y9, y10, rfl, fa, fr, low⟩
        rw [hL.len] at fr low
        refine ⟨_, rfl, rfl, _, rfl, ?_⟩
        rcases low with ⟨e1, e2⟩ | ⟨a, ha, rfl, hRa⟩
        · rw [e1]
          refine iteT (q1 ⟨v, fun e he => ?_⟩ _ fa.sm)
          obtain ⟨j, hj, ej⟩ := List.getElem_of_mem he
          have := e2 j e hj (by rw [List.getElem?_eq_getElem hj, ej])
          omega
        · refine iteF ?_
          have hb : ∀ p e, nx p = some e → e.b < n := fun p e h => (hp e (fr.nohit p e h).1).2
          refine ⟨_, rfl, _, rfl, _, rfl, n, a, B, lv, nx, rfl, SqL.of fa.hB, h2, ha, fa.la, hb, fun H3 s3 => ?_, fun H3 r rvs es s3 hr hes hc ne hle => ?_⟩
          · refine ⟨_, rfl, rfl, _, rfl, iteF ?_⟩
            exact ⟨v, lv, nx, R, _, _, _, _, _, _, _, rfl, ⟨fa.sm.trans s3, s3 _ _ fa.hA, s3 _ _ fa.hB, fun p hp => (fa.la p hp).same s3⟩, fr.next, .inr ⟨a, ha, rfl, hRa⟩⟩
          · refine ⟨_, rfl, rfl, _, rfl, iteT ⟨_, rfl, ?_⟩⟩
            exact q2 H3 r rvs es (fa.sm.trans s3) hr hes (fr.found hc ne) (by omega)
    · rintro σ H2 ⟨v, lv, nx, R, lw, y5, y6, y7, y8, y9, y10, rfl, fa, fr, low⟩
      rcases low with h0 | ⟨a, ha, rfl, hRa⟩
      · omega
      · obtain ⟨b1, b2, b3⟩ := fr.back hp ha (by omega)
        refine ⟨_, rfl, _, rfl, _, rfl, n, a, B, lv, nx, rfl, SqL.of fa.hB, h2, fa.la, b1, b2, b3, fun H3 r rvs es p s3 hr hes hc ne hle => ?_⟩
        exact q2 H3 r rvs es (fa.sm.trans s3) hr hes (fr.found hc ne) (by omega)
end
end K20

namespace K20
open PySem L2
section
variable {P : Program} {w : World} {K : PySem.W.Frag} {mg : Str → Option Value} {base : Heap} {C : Addr} {tk : Tok}
/-! __init__: slots 0=self 1=n 2=_ 3=a; cells ['n']; calls ['check_points']; methods [] -/
abbrev s_init : Stmt := inClass (top 18) 0
theorem sc_init : FnScope ["self", "n", "_", "a"] ["self", "n"] (defScope s_init) := ⟨rfl, rfl, rfl, by decide +kernel, rfl, by decide +kernel, by decide +kernel⟩
def sp_init (C : Addr) : Sp := fun vs H Q _ => ∃ (H0 : Hp) (x dx : Addr) (n : Nat), vs = [.ref x, .int n] ∧ Same H0 H ∧ H0 x = none ∧ H x = some (.ins C dx []) ∧ 1 ≤ n ∧ n ≤ 80 ∧ ∀ H', BAt C H0 H' x n tab0 0 → Q .non H'
def diagI (i : Nat) : Tab := fun p q => if p = q ∧ p < i then some 0 else none
theorem diagI_next (i : Nat) : upF (diagI i) i (upF (diagI i i) i (some 0)) = diagI (i + 1) := by
  funext p q
  unfold diagI upF
  by_cases hp : p = i
  · subst hp
    simp only [if_true]
    by_cases hq : q = p
    · subst hq
      simp
    · rw [if_neg hq, if_neg (by omega), if_neg (by omega)]
  · rw [if_neg hp]
    show (if p = q ∧ p < i then some (0 : Int) else none) = _
    by_cases hq : p = q ∧ p < i
    · rw [if_pos hq, if_pos ⟨hq.1, by omega⟩]
    · rw [if_neg hq, if_neg (by omega)]
theorem ok_init {f : Addr} {fd : FuncData} (F : Fun K "__init__" "Bounds.__init__" s_init f fd) (T : Txt K mg C tk) (ccheck_points : Cal P w K mg base "check_points" ["n"] 1 sp_check_points) :
    FnOk P w K mg base CX0 2 f fd ["self", "n"] (sp_init C) := by
  refine F.ok sc_init (fun vs H Q E h => ?_) (fun cdv A outer s H vs Q E hr h => ?_)
  · obtain ⟨H0, x, dx, n, rfl, _⟩ := h
    rfl
  · obtain ⟨H0, x, dx, n, rfl, s0, hx0, hx, h1, h2, q⟩ := h
    refine ⟨_, (pss_cons (ps_expr (pe_call ccheck_points.ok (hr.mono (by decide)) (by rfl) ccheck_points.mg ccheck_points.kp ccheck_points.b .nil pass0 (pa_cons (pv 1) pa_nil)))
      (pss_cons (ps_fld (pv 0) (pe_lst pa_nil) rfl)
      (pss_cons (ps_fld (pv 0) (pe_lc (own := [("_", 2)]) rfl sc_init.nd (pi_range1 rfl T.range (pa_cons (pv 1) pa_nil)) (blkOk_by (own := [("_", 2)]) (N := ["self", "n", "_", "a"]) (sc := defScope s_init) (by decide +kernel)) (fun _ _ _ _ _ => (pg_name (i := 2) sc_init.nd rfl (Or.inl rfl) (.inr rfl))) (fun _ _ _ _ _ => pts_nil) (fun _ _ _ _ _ => (pe_op op_rep (pe_lst (pa_cons pe_non pa_nil)) (pv 1)))) rfl)
      (pss_one (ps_for PassesOwn.never rfl (pi_range1 rfl T.range (pa_cons (pv 1) pa_nil)) (pg_name (i := 3) sc_init.nd rfl (Or.inl rfl))
      (pss_one (ps_asg pe_int (pg_sub (pe_ix (ixL (K := K)) (fldK (K := K) rfl (pv 0) rfl) (pv 3) (fun _ _ => rfl)) (pv 3) set_list)))))))), ?_⟩
    refine ⟨_, rfl, (n : Int), rfl, by omega, by omega, ?_⟩
    refine ⟨Nat.zero_le _, fun l hl => ?_⟩
    have nxl : x ≠ l := ne_of_none hx hl
    refine ⟨_, rfl, x, C, dx, [], rfl, (by rw [upd_ne nxl]; exact hx), T.cl, T.nL, (by show 0 < 1000; decide), ?_⟩
    have e1 : (upd (upd H l (.lst [])) x (.ins C dx (putF "_literals" (.ref l) []))) x = some (.ins C dx (putF "_literals" (.ref l) [])) := upd_same
    have e2 : (upd (upd H l (.lst [])) x (.ins C dx (putF "_literals" (.ref l) []))) l = some (.lst []) := by
      rw [upd_ne nxl.symm, upd_same]
    have s1 : Same H0 (upd (upd H l (.lst [])) x (.ins C dx (putF "_literals" (.ref l) []))) := (s0.poke (s0.free hl)).poke hx0
    generalize upd (upd H l (.lst [])) x (.ins C dx (putF "_literals" (.ref l) [])) = H1 at e1 e2 s1 ⊢
    have hl0 : H0 l = none := s0.free hl
    refine ⟨_, rfl, (n : Int), rfl, by omega, by omega, fun D hD => lc_range (lo := 0) (n := (n : Int).toNat) (fun i H' => ∃ rows : List Addr, rows.length = i ∧ RN H1 H' D rows n (fun _ _ => none)) ⟨[], rfl, RN.start hD⟩ ?_ ?_⟩
    · rintro i H' hi ⟨rows, hlen, rn⟩
      refine ⟨rfl, small' (by simp), fun A hA => ?_⟩
      refine ⟨_, rfl, A, _, _, rfl, rfl, upd_same, by omega, by omega, small' (by simp; omega), fun r hr => ?_⟩
      have sA : Same H' (upd H' A (.lst [V.non])) := Same.upd hA
      refine ⟨rows.map V.ref, (sA.trans (Same.upd hr)) _ _ rn.hD, small (by simp; omega), rows ++ [r], by simp [hlen], ?_⟩
      refine rn.next hD (sA.trans (Same.upd hr)) (sA.free hr) ?_
      rw [upd_same, show (n : Int).toNat = n from by omega]
      exact congrArg (fun z => some (HO.lst z)) (tab_rep n V.non)
    · rintro H2 ⟨rows, hlen, rn⟩
      have nxD : x ≠ D := ne_of_none e1 hD
      refine ⟨_, rfl, x, C, dx, _, rfl, rn.same _ _ e1, T.cl, T.nM, (by show 1 < 1000; decide), ?_⟩
      have b0 : BAt0 C H0 (upd H2 x (.ins C dx (putF "_least" (.ref D) (putF "_literals" (.ref l) [])))) x n (diagI 0) 0 dx l D rows [] := by
        have xr : ∀ r ∈ rows, r ≠ x := fun r hr => by
          obtain ⟨i, hi⟩ := List.mem_iff_getElem?.mp hr
          exact ne_of (rn.at_ i r hi) (rn.same _ _ e1) (by intro z; cases z)
        refine ⟨(s1.trans rn.same).poke hx0, hx0, hl0, s1.free hD, fun r hr => s1.free (rn.r0 r hr), upd_same, ?_, Nat.le_refl _, ?_, rn.nd, ⟨by omega, fun i r hr => ?_⟩, ?_, rn.rD, ?_⟩
        · rw [upd_ne nxl.symm]
          exact rn.same _ _ e2
        · rw [upd_ne nxD.symm]
          exact rn.hD
        · rw [upd_ne (xr r (List.mem_of_getElem? hr)), rn.at_ i r hr]
          refine congrArg (fun z => some (HO.lst z)) (tab_congr fun j _ => ?_)
          unfold diagI
          rw [if_neg (by omega)]
        · intro hm
          have := rn.r0 l hm
          rw [e2] at this
          cases this
        · exact ne_of_none e2 hD
      generalize upd H2 x (.ins C dx (putF "_least" (.ref D) (putF "_literals" (.ref l) []))) = H3 at b0 ⊢
      refine ⟨_, rfl, (n : Int), rfl, by omega, by omega, for_range (lo := 0) (n := (n : Int).toNat) (fun i σ H' => ∃ y2 y3, σ = [some (.ref x), some (.int n), y2, y3] ∧ BAt0 C H0 H' x n (diagI i) 0 dx l D rows []) ⟨_, _, rfl, b0⟩ ?_ ?_⟩
      · rintro i σ H' hi ⟨y2, y3, rfl, b⟩
        have hin : i < n := by omega
        obtain ⟨r, hr, har, hrr⟩ := b.get hin
        refine ⟨_, rfl, x, C, dx, _, _, rfl, b.hp, T.cl, T.nM, pf_least _ _, _, rfl, D, _, _, _, rfl, rfl, SqL.of b.hm, at_of (by omega) (atI_nat_get har), _, rfl, r, _, _, i, rfl, rfl, hrr, ?_, ?_⟩
        · rw [tab_len, show ((0 : Int) + (i : Int)) = (i : Int) from by omega]
          exact ixN_nat hin
        · rw [oT_set]
          have b' := b.row hr (upF (diagI i i) i (some 0))
          rw [diagI_next] at b'
          exact ⟨_, _, rfl, b'⟩
      · rintro σ H' ⟨y2, y3, rfl, b⟩
        refine q _ (b.congr fun i j hi hj => ?_).bat
        unfold diagI tab0
        by_cases h : i = j
        · rw [if_pos ⟨h, by omega⟩, if_pos h]
        · rw [if_neg (fun z => h z.1), if_neg h]
/-! size: slots 0=self; cells []; calls []; methods [] -/
abbrev s_size : Stmt := inClass (top 18) 1
theorem sc_size : FnScope ["self"] ["self"] (defScope s_size) := ⟨rfl, rfl, rfl, by decide +kernel, rfl, by decide +kernel, by decide +kernel⟩
def sp_size (C : Addr) : Sp := fun vs H Q _ => ∃ (H0 : Hp) (p : Addr) (n : Nat) (M : Tab) (k : Nat), vs = [.ref p] ∧ BAt C H0 H p n M k ∧ Q (.int n) H
theorem ok_size {f : Addr} {fd : FuncData} (F : Fun K "size" "Bounds.size" s_size f fd) (T : Txt K mg C tk) : FnOk P w K mg base CX0 1 f fd ["self"] (sp_size C) := by
  refine F.ok sc_size (fun vs H Q E h => ?_) (fun cdv A outer s H vs Q E hr h => ?_)
  · obtain ⟨H0, p, n, M, k, rfl, _⟩ := h
    rfl
  · obtain ⟨H0, p, n, M, k, rfl, ⟨dx, l, m, rows, lits, b⟩, q⟩ := h
    refine ⟨_, (pss_one (ps_ret (pe_callB call_len_seq (by rfl) T.len PySem.boot_len (pa_cons (fldK (K := K) rfl (pv 0) rfl) pa_nil)))), ?_⟩
    refine ⟨_, rfl, p, C, dx, _, _, rfl, b.hp, T.cl, T.nM, pf_least _ _, m, _, rfl, .inl (SqL.of b.hm), ?_⟩
    show Q (.int ((rows.map V.ref).length : Nat)) H
    rw [List.length_map, b.rs.len]
    exact q
/-! bound: slots 0=self 1=a 2=b 3=n; cells []; calls []; methods [] -/
abbrev s_bound : Stmt := inClass (top 18) 3
theorem sc_bound : FnScope ["self", "a", "b", "n"] ["self", "a", "b"] (defScope s_bound) := ⟨rfl, rfl, rfl, by decide +kernel, rfl, by decide +kernel, by decide +kernel⟩
def sp_bound (C : Addr) : Sp := fun vs H Q _ => ∃ (H0 : Hp) (p : Addr) (n : Nat) (M : Tab) (k a b : Nat), vs = [.ref p, .int a, .int b] ∧ BAt C H0 H p n M k ∧ a < n ∧ b < n ∧ Q (optV (M a b)) H
theorem ok_bound {f : Addr} {fd : FuncData} (F : Fun K "bound" "Bounds.bound" s_bound f fd) (T : Txt K mg C tk) : FnOk P w K mg base CX0 1 f fd ["self", "a", "b"] (sp_bound C) := by
  refine F.ok sc_bound (fun vs H Q E h => ?_) (fun cdv A outer s H vs Q E hr h => ?_)
  · obtain ⟨H0, p, n, M, k, a, b, rfl, _⟩ := h
    rfl
  · obtain ⟨H0, p, n, M, k, a, b, rfl, ⟨dx, l, m, rows, lits, B⟩, ha, hb, q⟩ := h
    obtain ⟨r, hr, har, hrr⟩ := B.get ha
    refine ⟨_, (pss_cons (ps_set (i := 3) sc_bound.nd rfl (Or.inl rfl) (pe_callB call_len_seq (by rfl) T.len PySem.boot_len (pa_cons (fldK (K := K) rfl (pv 0) rfl) pa_nil)))
      (pss_cons (ps_if (PW.pt (pw_or (pt_cmpR op_lt (pv 1) pe_int (nomark _)) (pw_or (pt_cmpR op_lt (pv 2) pe_int (nomark _)) (pw_or (pt_cmpR op_ge (pv 1) (pv 3) (nomark _)) (pw_or1 (pt_cmpR op_ge (pv 2) (pv 3) (nomark _)))))))
      (pss_one ps_never)
      pss_nil)
      (pss_one (ps_ret (pe_ix (ixL (K := K)) (pe_ix (ixL (K := K)) (fldK (K := K) rfl (pv 0) rfl) (pv 1) (fun _ _ => rfl)) (pv 2) (fun _ _ => rfl)))))), ?_⟩
    refine ⟨_, rfl, p, C, dx, _, _, rfl, B.hp, T.cl, T.nM, pf_least _ _, m, _, rfl, .inl (SqL.of B.hm), ?_⟩
    refine ⟨_, rfl, _, _, rfl, rfl, _, rfl, ?_⟩
    rw [decide_eq_false (by omega)]
    refine iteF ⟨_, rfl, _, _, rfl, rfl, _, rfl, ?_⟩
    rw [decide_eq_false (by omega)]
    refine iteF ⟨_, rfl, _, rfl, _, _, rfl, rfl, _, rfl, ?_⟩
    rw [decide_eq_false (by rw [List.length_map, B.rs.len]; omega)]
    refine iteF ⟨_, rfl, _, rfl, _, _, rfl, rfl, _, rfl, ?_⟩
    rw [decide_eq_false (by rw [List.length_map, B.rs.len]; omega)]
    refine iteF ⟨_, rfl, p, C, dx, _, _, rfl, B.hp, T.cl, T.nM, pf_least _ _, _, rfl, m, _, _, _, rfl, rfl, SqL.of B.hm, har, _, rfl, r, _, _, _, rfl, rfl, SqL.of hrr, tab_at hb, q⟩
/-! _take: slots 0=self 1=literals 2=least 3=row; cells []; calls []; methods [] -/
abbrev s_take : Stmt := inClass (top 18) 11
theorem sc_take : FnScope ["self", "literals", "least", "row"] ["self", "literals", "least"] (defScope s_take) := ⟨rfl, rfl, rfl, by decide +kernel, rfl, by decide +kernel, by decide +kernel⟩
def sp_take (C : Addr) : Sp := fun vs H Q _ => ∃ (H0 : Hp) (p : Addr) (n : Nat) (M0 : Tab) (k0 : Nat) (l2 m2 : Addr) (lits2 : List V) (rows2 : List Addr) (M : Tab) (k : Nat), vs = [.ref p, .ref l2, .ref m2] ∧ BAt C H0 H p n M0 k0 ∧
  H0 l2 = some (.lst lits2) ∧ lits2.length ≤ k ∧ H0 m2 = some (.lst (rows2.map V.ref)) ∧ Rows H0 rows2 n M ∧ n ≤ 80 ∧ ∀ H', BAt C H0 H' p n M k → Q .non H'
theorem ok_take {f : Addr} {fd : FuncData} (F : Fun K "_take" "Bounds._take" s_take f fd) (T : Txt K mg C tk) : FnOk P w K mg base CX0 1 f fd ["self", "literals", "least"] (sp_take C) := by
  refine F.ok sc_take (fun vs H Q E h => ?_) (fun cdv A outer s H vs Q E hr h => ?_)
  · obtain ⟨H0, p, n, M0, k0, l2, m2, lits2, rows2, M, k, rfl, _⟩ := h
    rfl
  · obtain ⟨H0, p, n, M0, k0, l2, m2, lits2, rows2, M, k, rfl, ⟨dx, l, m, rows, lits, b⟩, hl2, hk, hm2, hr2, hn, q⟩ := h
    refine ⟨_, (pss_cons (ps_fld (pv 0) (pe_callTy (listK (K := K)) (by rfl) T.list (by decide +kernel) (pa_cons (pv 1) pa_nil)) rfl)
      (pss_one (ps_fld (pv 0) (pe_lc (own := [("row", 3)]) rfl sc_take.nd (pi_list (pv 2)) (blkOk_by (own := [("row", 3)]) (N := ["self", "literals", "least", "row"]) (sc := defScope s_take) (by decide +kernel)) (fun _ _ _ _ _ => (pg_name (i := 3) sc_take.nd rfl (Or.inl rfl) (.inr rfl))) (fun _ _ _ _ _ => pts_nil) (fun _ _ _ _ _ => (pe_callTy (listK (K := K)) (by rfl) T.list (by decide +kernel) (pa_cons (pv 3) pa_nil)))) rfl))), ?_⟩
    have s0 := b.same
    refine ⟨_, rfl, l2, _, rfl, .inl (SqL.of (s0 _ _ hl2)), fun l' hl' => ?_⟩
    have npl : p ≠ l' := ne_of_none b.hp hl'
    refine ⟨_, rfl, p, C, dx, _, rfl, (by rw [upd_ne npl]; exact b.hp), T.cl, T.nL, (by rw [pf_eq]; show 2 < 1000; decide), ?_⟩
    have e1 : (upd (upd H l' (.lst lits2)) p (.ins C dx (putF "_literals" (.ref l') (pf l m)))) p = some (.ins C dx (pf l' m)) := by
      rw [upd_same, pf_put_lits]
    have e2 : (upd (upd H l' (.lst lits2)) p (.ins C dx (putF "_literals" (.ref l') (pf l m)))) l' = some (.lst lits2) := by
      rw [upd_ne npl.symm, upd_same]
    have s1 : Same H0 (upd (upd H l' (.lst lits2)) p (.ins C dx (putF "_literals" (.ref l') (pf l m)))) := (s0.poke (s0.free hl')).poke b.p0
    generalize upd (upd H l' (.lst lits2)) p (.ins C dx (putF "_literals" (.ref l') (pf l m))) = H1 at e1 e2 s1 ⊢
    have hl0 : H0 l' = none := s0.free hl'
    refine ⟨_, rfl, m2, rfl, ⟨_, SqL.of (s1 _ _ hm2)⟩, fun D hD => lc_list (K := K) (a := m2) (xs := rows2.map V.ref) (fun i H' => ∃ rows : List Addr, rows.length = i ∧ RN H1 H' D rows n M) ⟨[], rfl, RN.start hD⟩ (fun i H' _ h => ?_) ?_ ?_⟩
    · obtain ⟨_, _, rn⟩ := h
      exact SqL.of (rn.same _ _ (s1 _ _ hm2))
    · rintro i v H' hi ⟨rs, hlen, rn⟩
      rw [List.getElem?_map] at hi
      obtain ⟨r2, hr2i, rfl⟩ := Option.map_eq_some_iff.mp hi
      have hin : i < n := by
        rw [← hr2.len]
        exact (List.getElem?_eq_some_iff.mp hr2i).1
      have hrr := rn.same _ _ (s1 _ _ (hr2.at_ i r2 hr2i))
      refine ⟨rfl, _, rfl, r2, _, rfl, .inl (SqL.of hrr), fun r hr => ?_⟩
      have sr : Same H' (upd H' r (.lst (oT n (M i)))) := Same.upd hr
      refine ⟨rs.map V.ref, sr _ _ rn.hD, small (by simp; omega), rs ++ [r], by simp [hlen], ?_⟩
      refine rn.next hD sr hr ?_
      rw [upd_same, hlen]
    · rintro H2 ⟨rs, hlen, rn⟩
      rw [List.length_map, hr2.len] at hlen
      have npD : p ≠ D := ne_of_none e1 hD
      refine ⟨_, rfl, p, C, dx, _, rfl, rn.same _ _ e1, T.cl, T.nM, (by rw [pf_eq]; show 2 < 1000; decide), ?_⟩
      have xr : ∀ r ∈ rs, r ≠ p := fun r hr => by
        obtain ⟨i, hi⟩ := List.mem_iff_getElem?.mp hr
        exact ne_of (rn.at_ i r hi) (rn.same _ _ e1) (by intro z; cases z)
      rw [pf_put_least]
      refine q _ ⟨dx, l', D, rs, lits2, (s1.trans rn.same).poke b.p0, b.p0, hl0, s1.free hD, fun r hr => s1.free (rn.r0 r hr), upd_same, ?_, hk, ?_, rn.nd, ⟨hlen, fun i r hr => ?_⟩, ?_, rn.rD, ?_⟩
      · rw [upd_ne npl.symm]
        exact rn.same _ _ e2
      · rw [upd_ne npD.symm]
        exact rn.hD
      · rw [upd_ne (xr r (List.mem_of_getElem? hr))]
        exact rn.at_ i r hr
      · intro hm
        have := rn.r0 l' hm
        rw [e2] at this
        cases this
      · exact ne_of_none e2 hD
/-! copy: slots 0=self 1=other; cells []; calls []; methods ['_take', 'size'] -/
abbrev s_copy : Stmt := inClass (top 18) 12
theorem sc_copy : FnScope ["self", "other"] ["self"] (defScope s_copy) := ⟨rfl, rfl, rfl, by decide +kernel, rfl, by decide +kernel, by decide +kernel⟩
def sp_copy (C : Addr) : Sp := fun vs H Q _ => ∃ (H0 : Hp) (p : Addr) (n : Nat) (M : Tab) (k : Nat), vs = [.ref p] ∧ BAt C H0 H p n M k ∧ 1 ≤ n ∧ n ≤ 80 ∧ ∀ H' q, BAt C H H' q n M k → Q (.ref q) H'
theorem ok_copy {f : Addr} {fd : FuncData} (F : Fun K "copy" "Bounds.copy" s_copy f fd) (T : Txt K mg C tk) (c__init__ : CalI P w K mg base C ["self", "n"] 2 (sp_init C)) (csize : CalM P w K mg base C "size" ["self"] 1 (sp_size C))
    (c_take : CalM P w K mg base C "_take" ["self", "literals", "least"] 1 (sp_take C)) : FnOk P w K mg base CX0 4 f fd ["self"] (sp_copy C) := by
  refine F.ok sc_copy (fun vs H Q E h => ?_) (fun cdv A outer s H vs Q E hr h => ?_)
  · obtain ⟨H0, p, n, M, k, rfl, _⟩ := h
    rfl
  · obtain ⟨H0, p, n, M, k, rfl, hB, h1, h2, q⟩ := h
    obtain ⟨dx, l, m, rows, lits, b⟩ := id hB
    refine ⟨_, (pss_cons (ps_set (i := 1) sc_copy.nd rfl (Or.inl rfl) (pe_make c__init__.mkc c__init__.ok (hr.mono (by decide)) (by rfl) T.mgC c__init__.b .nil pass0 (pa_cons (pe_meth0 (pv 0) T.cl csize.me csize.ok (hr.mono (by decide)) csize.b .nil pass0) pa_nil)))
      (pss_cons (ps_expr (pe_meth (pv 1) T.cl c_take.me c_take.ok (hr.mono (by decide)) c_take.b .nil pass0 (pa_cons (fldK (K := K) rfl (pv 0) rfl) (pa_cons (fldK (K := K) rfl (pv 0) rfl) pa_nil))))
      (pss_one (ps_ret (pv 1))))), ?_⟩
    refine ⟨_, rfl, p, dx, _, rfl, b.hp, pf_no _ _ (by decide +kernel) (by decide +kernel), H0, p, n, M, k, rfl, hB, ?_⟩
    intro x dx' nx ndx nex
    have s0 : Same H (upd (upd H dx' (.own x)) x (.ins C dx' [])) := ((Same.refl H).poke ndx).poke nx
    refine ⟨H, x, dx', n, rfl, s0, nx, upd_same, h1, h2, fun H1 B1 => ⟨rfl, ?_⟩⟩
    obtain ⟨dx1, l1, m1, rows1, lits1, b1⟩ := id B1
    have sp := B1.same
    refine ⟨_, rfl, x, dx1, _, rfl, b1.hp, pf_no _ _ (by decide +kernel) (by decide +kernel), ?_⟩
    refine ⟨_, rfl, p, C, dx, _, _, rfl, sp _ _ b.hp, T.cl, T.nL, pf_lits _ _, _, rfl, p, C, dx, _, _, rfl, sp _ _ b.hp, T.cl, T.nM, pf_least _ _, ?_⟩
    refine ⟨H, x, n, tab0, 0, l, m, lits, rows, M, k, rfl, B1, b.hl, b.nl, b.hm, b.rs, h2, fun H2 B2 => ?_⟩
    exact ⟨_, rfl, q _ _ B2⟩
end
end K20

namespace K20
open PySem L2
/-! ### a comprehension over enumerate(list) -/
theorem lc_enum {K : PySem.W.Frag} {a : Addr} {xs : List V} {g : TG} {tt : TT} {te : TE} {vs : List Nat} {σ : L2.St} {H1 : Hp} {D : Addr} {Qd : Hp → Prop} (Pv : Nat → Hp → Prop) (h0 : Pv 0 (upd H1 D (.lst []))) (hl : ∀ i H, i ≤ xs.length → Pv i H → SqL K H a xs)
    (hs : ∀ i x H T, xs[i]? = some x → Pv i H → H T = none → g (.ref T) (wipe σ vs) (upd H T (.tup [.int (i : Nat), x])) fun σ2 H2 => wipe σ2 vs = wipe σ vs ∧ tt σ2 H2 fun b H3 =>
      if b = true then te σ2 H3 fun y H4 => ∃ acc, H4 D = some (.lst acc) ∧ acc.length < sizeLine ∧ Pv (i + 1) (upd H4 D (.lst (acc ++ [y]))) else Pv (i + 1) H3) (hd : ∀ H, Pv xs.length H → Qd H) :
    ∃ W : Nat → Nat → Hp → Prop, (∃ m, W 0 m (upd H1 D (.lst []))) ∧ ∀ i m H, W i m H →
      ((Ite K a).stop i H ∧ Qd H) ∨ ((Ite K a).go i H ∧ ∃ Nx : Hp → Prop, (∀ H', Nx H' → ∃ m', m' < m ∧ W (i + 1) m' H') ∧ ∀ x H', (Ite K a).yld i H x H' → g x (wipe σ vs) H' fun σ2 H2 => wipe σ2 vs = wipe σ vs ∧ tt σ2 H2 fun b H3 =>
        if b = true then te σ2 H3 fun y H4 => ∃ acc, H4 D = some (.lst acc) ∧ acc.length < sizeLine ∧ Nx (upd H4 D (.lst (acc ++ [y]))) else Nx H3) := by
  refine ⟨fun i m H => m = xs.length - i ∧ i ≤ xs.length ∧ Pv i H, ⟨xs.length, by simp, Nat.zero_le _, h0⟩, ?_⟩
  rintro i m H ⟨rfl, hi, p⟩
  have q := hl i H hi p
  by_cases hlt : i < xs.length
  · refine .inr ⟨⟨xs, xs[i], q, by simp [hlt]⟩, Pv (i + 1), fun H' p' => ⟨xs.length - (i + 1), by omega, rfl, hlt, p'⟩, fun x H' y => ?_⟩
    obtain ⟨T, z, rfl, hT, rfl, hz⟩ := y
    exact hs i z H T (hz xs q) p hT
  · have e : i = xs.length := by omega
    subst e
    exact .inl ⟨⟨xs, q, Nat.le_refl _⟩, hd H p⟩
/-! ### the points to which a row leads -/
def prs (r : Nat → Option Int) (n : Nat) : List (Nat × Int) := (List.range n).filterMap fun q => (r q).map fun y => (q, y)
theorem prs_succ (r : Nat → Option Int) (n : Nat) : prs r (n + 1) = prs r n ++ (match r n with | some y => [(n, y)] | none => []) := by
  unfold prs
  rw [List.range_succ, List.filterMap_append]
  congr 1
  cases h : r n <;> simp [h]
theorem prs_mem {r : Nat → Option Int} {n q : Nat} {y : Int} : (q, y) ∈ prs r n ↔ q < n ∧ r q = some y := by
  unfold prs
  rw [List.mem_filterMap]
  constructor
  · rintro ⟨q', hq, e⟩
    cases hr : r q' with
    | none =>
      rw [hr] at e
      cases e
    | some y' =>
      rw [hr] at e
      cases e
      exact ⟨List.mem_range.mp hq, hr⟩
  · rintro ⟨hq, e⟩
    exact ⟨q, List.mem_range.mpr hq, by rw [e]; rfl⟩
theorem prs_len (r : Nat → Option Int) (n : Nat) : (prs r n).length ≤ n := by
  have := List.length_filterMap_le (fun q => (r q).map fun y => (q, y)) (List.range n)
  rw [List.length_range] at this
  exact this
theorem prs_ord (r : Nat → Option Int) : ∀ (n i j : Nat) (a b : Nat × Int), (prs r n)[i]? = some a → (prs r n)[j]? = some b → i < j → a.1 < b.1
  | 0, i, j, a, b, h, _, _ => by simp [prs] at h
  | n + 1, i, j, a, b, h, h', l => by
    rw [prs_succ] at h h'
    by_cases hj : j < (prs r n).length
    · rw [List.getElem?_append_left hj] at h'
      rw [List.getElem?_append_left (by omega)] at h
      exact prs_ord r n i j a b h h' l
    · rw [List.getElem?_append_right (by omega)] at h'
      cases hr : r n with
      | none =>
        rw [hr] at h'
        simp at h'
      | some y =>
        rw [hr] at h' h
        have hj0 : j - (prs r n).length = 0 := by
          rcases Nat.eq_zero_or_pos (j - (prs r n).length) with z | z
          · exact z
          · rw [List.getElem?_eq_none (by simp; omega)] at h'
            cases h'
        rw [hj0] at h'
        have h' := Option.some.inj h'
        rw [List.getElem?_append_left (by omega)] at h
        have hm := List.mem_of_getElem? h
        have := (prs_mem (q := a.1) (y := a.2)).mp hm
        rw [← h']
        exact this.1
/-- pairs in the heap -/
structure Prs (K : PySem.W.Frag) (H : Hp) (vs : List V) (ps : List (Nat × Int)) : Prop where
  len : vs.length = ps.length
  at_ : ∀ (i : Nat) v, vs[i]? = some v → ∃ t p, v = .ref t ∧ ps[i]? = some p ∧ SqT K H t [.int (p.1 : Nat), .int p.2]
theorem Prs.nil {K : PySem.W.Frag} {H : Hp} : Prs K H [] [] := ⟨rfl, fun i v h => by simp at h⟩
theorem Prs.same {K : PySem.W.Frag} {H H' : Hp} {vs : List V} {ps : List (Nat × Int)} (h : Prs K H vs ps) (s : Same H H') : Prs K H' vs ps :=
  ⟨h.len, fun i v hv => let ⟨t, e, a, b, c⟩ := h.at_ i v hv; ⟨t, e, a, b, s.tup c⟩⟩
theorem Prs.poke {K : PySem.W.Frag} {H : Hp} {D : Addr} {xs vs : List V} {ps : List (Nat × Int)} {o : HO} (h : Prs K H vs ps) (hD : H D = some (.lst xs)) : Prs K (upd H D o) vs ps :=
  ⟨h.len, fun i v hv => let ⟨t, e, a, b, c⟩ := h.at_ i v hv; ⟨t, e, a, b, tup_poke c hD⟩⟩
theorem Prs.snoc {K : PySem.W.Frag} {H : Hp} {vs : List V} {ps : List (Nat × Int)} {t : Addr} {p : Nat × Int} (h : Prs K H vs ps) (ht : SqT K H t [.int (p.1 : Nat), .int p.2]) : Prs K H (vs ++ [.ref t]) (ps ++ [p]) := by
  refine ⟨by simp [h.len], fun i v hv => ?_⟩
  by_cases hi : i < vs.length
  · rw [List.getElem?_append_left hi] at hv
    obtain ⟨t', e', a, b, c⟩ := h.at_ i v hv
    exact ⟨t', e', a, by rw [List.getElem?_append_left (by rw [← h.len]; exact hi)]; exact b, c⟩
  · rw [List.getElem?_append_right (by omega)] at hv
    by_cases h0 : i - vs.length = 0
    · rw [h0] at hv
      have hv := Option.some.inj hv
      exact ⟨t, p, hv.symm, by rw [List.getElem?_append_right (by rw [← h.len]; omega), ← h.len, h0]; rfl, ht⟩
    · rw [List.getElem?_eq_none (by simp; omega)] at hv
      cases hv
/-- a row while it is led over the pairs that were gone through -/
def ledR (hd : Int) (row aft : Nat → Option Int) (ps : List (Nat × Int)) (j : Nat) : Nat → Option Int := fun q => if q ∈ (ps.take j).map (·.1) then lead hd row aft q else row q
theorem led_next {hd : Int} {row aft : Nat → Option Int} {n j : Nat} {p : Nat × Int} (h : (prs aft n)[j]? = some p) :
    ledR hd row aft (prs aft n) (j + 1) = (if lessO (some (hd + p.2)) (row p.1) = true then upF (ledR hd row aft (prs aft n) j) p.1 (some (hd + p.2)) else ledR hd row aft (prs aft n) j) ∧ ledR hd row aft (prs aft n) j p.1 = row p.1 := by
  have hp := (prs_mem (q := p.1) (y := p.2)).mp (List.mem_of_getElem? h)
  have hnot : p.1 ∉ ((prs aft n).take j).map (·.1) := by
    intro hm
    obtain ⟨a, ha, e⟩ := List.mem_map.mp hm
    obtain ⟨i, hi⟩ := List.mem_iff_getElem?.mp ha
    have hij : i < j := by
      have := (List.getElem?_eq_some_iff.mp hi).1
      rw [List.length_take] at this
      omega
    rw [List.getElem?_take, if_pos hij] at hi
    have := prs_ord aft n i j a p hi h hij
    omega
  have hold : ledR hd row aft (prs aft n) j p.1 = row p.1 := if_neg hnot
  have htk : ((prs aft n).take (j + 1)).map (·.1) = ((prs aft n).take j).map (·.1) ++ [p.1] := by
    rw [List.take_add_one, h, List.map_append]
    rfl
  have hlead : lead hd row aft p.1 = (if lessO (some (hd + p.2)) (row p.1) = true then some (hd + p.2) else row p.1) := by
    unfold lead
    rw [hp.2]
  refine ⟨?_, hold⟩
  funext q
  show (if q ∈ ((prs aft n).take (j + 1)).map (·.1) then lead hd row aft q else row q) = _
  rw [htk]
  by_cases hq : q = p.1
  · subst hq
    rw [if_pos (List.mem_append_right _ (List.mem_singleton.mpr rfl)), hlead]
    by_cases hl : lessO (some (hd + p.2)) (row p.1) = true
    · rw [if_pos hl, if_pos hl, upF_same]
    · rw [if_neg hl, if_neg hl, hold]
  · have hmm : (q ∈ ((prs aft n).take j).map (·.1) ++ [p.1]) ↔ q ∈ ((prs aft n).take j).map (·.1) := by
      rw [List.mem_append, List.mem_singleton]
      exact ⟨fun z => z.elim id fun z => absurd z hq, .inl⟩
    have hr : (if q ∈ ((prs aft n).take j).map (·.1) ++ [p.1] then lead hd row aft q else row q) = ledR hd row aft (prs aft n) j q := by
      unfold ledR
      simp only [hmm]
    rw [hr]
    split
    · rw [upF_ne hq]
    · rfl
theorem led_end {hd : Int} {row aft : Nat → Option Int} {n q : Nat} (hq : q < n) : ledR hd row aft (prs aft n) (prs aft n).length q = lead hd row aft q := by
  unfold ledR
  rw [List.take_length]
  by_cases h : q ∈ (prs aft n).map (·.1)
  · rw [if_pos h]
  · rw [if_neg h]
    unfold lead
    cases ha : aft q with
    | none => rfl
    | some y => exact absurd (List.mem_map.mpr ⟨(q, y), prs_mem.mpr ⟨hq, ha⟩, rfl⟩) h
theorem led_zero {hd : Int} {row aft : Nat → Option Int} {ps : List (Nat × Int)} : ledR hd row aft ps 0 = row := by
  funext q
  unfold ledR
  rw [List.take_zero]
  simp
/-- the table while i rows are led -/
def addI (M : Tab) (a b : Nat) (c : Int) (i : Nat) : Tab := fun p => if p < i then rowT M a b c p else M p
theorem addI_next (M : Tab) (a b : Nat) (c : Int) (i : Nat) : upF (addI M a b c i) i (rowT M a b c i) = addI M a b c (i + 1) := by
  funext p
  unfold upF addI
  by_cases hp : p = i
  · subst hp
    rw [if_pos rfl, if_pos (Nat.lt_succ_self _)]
  · rw [if_neg hp]
    by_cases h : p < i
    · rw [if_pos h, if_pos (by omega)]
    · rw [if_neg h, if_neg (by omega)]
theorem addI_at (M : Tab) (a b : Nat) (c : Int) (i : Nat) : addI M a b c i i = M i := if_neg (Nat.lt_irrefl _)
theorem upF_upF {α : Type} {f : Nat → α} {a : Nat} {x y : α} : upF (upF f a x) a y = upF f a y := by
  funext i
  unfold upF
  split <;> rfl
theorem upF_id {α : Type} {f : Nat → α} {a : Nat} : upF f a (f a) = f := by
  funext i
  unfold upF
  split
  · rename_i h
    rw [h]
  · rfl
section
variable {P : Program} {w : World} {K : PySem.W.Frag} {mg : Str → Option Value} {base : Heap} {C : Addr} {tk : Tok}
/-! _shorten: slots 0=self 1=a 2=b 3=c 4=after 5=point 6=rest 7=row 8=ahead; cells []; calls ['is_less', 'joined']; methods [] -/
abbrev s_shorten : Stmt := inClass (top 18) 5
theorem sc_shorten : FnScope ["self", "a", "b", "c", "after", "point", "rest", "row", "ahead"] ["self", "a", "b", "c"] (defScope s_shorten) := ⟨rfl, rfl, rfl, by decide +kernel, rfl, by decide +kernel, by decide +kernel⟩
def sp_shorten (C : Addr) : Sp := fun vs H Q _ => ∃ (H0 : Hp) (p : Addr) (n : Nat) (M : Tab) (k a b : Nat) (c : Int), vs = [.ref p, .int a, .int b, .int c] ∧ BAt C H0 H p n M k ∧ a < n ∧ b < n ∧ n ≤ 80 ∧ ∀ H', BAt C H0 H' p n (addT M a b c) k → Q .non H'
theorem ok_shorten {f : Addr} {fd : FuncData} (F : Fun K "_shorten" "Bounds._shorten" s_shorten f fd) (T : Txt K mg C tk) (cjoined : Cal P w K mg base "joined" ["first", "second"] 1 sp_joined) (cis_less : Cal P w K mg base "is_less" ["first", "second"] 1 sp_is_less) :
    FnOk P w K mg base CX0 2 f fd ["self", "a", "b", "c"] (sp_shorten C) := by
  refine F.ok sc_shorten (fun vs H Q E h => ?_) (fun cdv A outer s H vs Q E hr h => ?_)
  · obtain ⟨H0, p, n, M, k, a, b, c, rfl, _⟩ := h
    rfl
  · obtain ⟨H0, p, n, M, k, a, b, c, rfl, ⟨dx, l, m, rows, lits, B⟩, ha, hb, hn, q⟩ := h
    obtain ⟨rb, hrb, harb, hrbl⟩ := B.get hb
    refine ⟨_, (pss_cons (ps_setLc (i := 4) (own := [("point", 5), ("rest", 6)]) rfl sc_shorten.nd rfl rfl (sw_true rfl rfl rfl (by decide +kernel)) (pi_enum (by rfl) T.enumerate (pa_cons (pe_ix (ixL (K := K)) (fldK (K := K) rfl (pv 0) rfl) (pv 2) (fun _ _ => rfl)) pa_nil)) (blkOk_by (own := [("point", 5), ("rest", 6)]) (N := ["self", "a", "b", "c", "after", "point", "rest", "row", "ahead"]) (sc := defScope s_shorten) (by decide +kernel)) (fun _ _ _ _ _ => (pg_tupK (K := K) (n := 2) rfl rfl (pgs_cons (pg_name (i := 5) sc_shorten.nd rfl (Or.inl rfl) (.inr rfl)) (pgs_cons (pg_name (i := 6) sc_shorten.nd rfl (Or.inl rfl) (.inr rfl)) pgs_nil)))) (fun _ _ _ _ _ => (pts_one (pt_cmpR op_notN (pv 6) pe_non (nomark _)))) (fun _ _ _ _ _ => (pe_tup (pa_cons (pv 5) (pa_cons (pv 6) pa_nil)))))
      (pss_one (ps_for PassesOwn.never rfl (pi_list (fldK (K := K) rfl (pv 0) rfl)) (pg_name (i := 7) sc_shorten.nd rfl (Or.inl rfl))
      (pss_cons (ps_set (i := 8) sc_shorten.nd rfl (Or.inl rfl) (pe_call cjoined.ok (hr.mono (by decide)) (by rfl) cjoined.mg cjoined.kp cjoined.b .nil pass0 (pa_cons (pe_ix (ixL (K := K)) (pv 7) (pv 1) (fun _ _ => rfl)) (pa_cons (pv 3) pa_nil))))
        (pss_cons (ps_if (pt_not (pt_val (pe_call cis_less.ok (hr.mono (by decide)) (by rfl) cis_less.mg cis_less.kp cis_less.b .nil pass0 (pa_cons (pv 8) (pa_cons (pe_ix (ixL (K := K)) (pv 7) (pv 2) (fun _ _ => rfl)) pa_nil)))))
        (pss_one ps_continue)
        pss_nil)
        (pss_one (ps_for PassesOwn.never rfl (pi_list (pv 4)) (pg_tup rfl (pgs_cons (pg_name (i := 5) sc_shorten.nd rfl (Or.inl rfl)) (pgs_cons (pg_name (i := 6) sc_shorten.nd rfl (Or.inl rfl)) pgs_nil)))
        (pss_one (ps_if (pt_val (pe_call cis_less.ok (hr.mono (by decide)) (by rfl) cis_less.mg cis_less.kp cis_less.b .nil pass0 (pa_cons (pe_op op_add (pv 8) (pv 6)) (pa_cons (pe_ix (ixL (K := K)) (pv 7) (pv 5) (fun _ _ => rfl)) pa_nil))))
          (pss_one (ps_asg (pe_op op_add (pv 8) (pv 6)) (pg_sub (pv 7) (pv 5) set_list)))
          pss_nil))))))))), ?_⟩
    refine ⟨_, rfl, p, C, dx, _, _, rfl, B.hp, T.cl, T.nM, pf_least _ _, _, rfl, m, _, _, _, rfl, rfl, SqL.of B.hm, harb, rb, _, rfl, SqL.of hrbl, fun D hD => lc_enum (K := K) (a := rb) (xs := oT n (M b)) (fun i H' => ∃ vs : List V, Same H H' ∧ H' D = some (.lst vs) ∧ Prs K H' vs (prs (M b) i))
      ⟨[], Same.upd hD, upd_same, .nil⟩ (fun i H' _ h => by obtain ⟨_, s, _⟩ := h; exact SqL.of (s _ _ hrbl)) ?_ ?_⟩
    · rintro i x H' t hi ⟨vs, sm, hDl, hps⟩ ht
      have hin : i < n := by
        have := (List.getElem?_eq_some_iff.mp hi).1
        rwa [tab_len] at this
      rw [tab_get hin] at hi
      cases hi
      have st : Same H' (upd H' t (.tup [.int (i : Nat), optV (M b i)])) := Same.upd ht
      have hvl : vs.length ≤ 80 := by
        have h1 := hps.len
        have h2 := prs_len (M b) i
        omega
      refine ⟨t, _, rfl, SqT.of upd_same, rfl, _, _, rfl, _, _, rfl, rfl, rfl, _, rfl, rfl, _, rfl, ?_⟩
      cases hm : M b i with
      | none =>
        refine iteF ⟨vs, sm.trans ?_, ?_, ?_⟩
        · rw [← hm]; exact st
        · rw [← hm]; exact st _ _ hDl
        · rw [prs_succ, hm, List.append_nil, ← hm]
          exact hps.same st
      | some y =>
        rw [hm] at st
        refine iteT ⟨_, rfl, _, rfl, by show 2 ≤ sizeLine; decide, fun u hu => ?_⟩
        have su := Same.upd (o := .tup [V.int (i : Nat), V.int y]) hu
        refine ⟨vs, su _ _ (st _ _ hDl), small (by omega), vs ++ [.ref u], ((sm.trans st).trans su).poke hD, upd_same, ?_⟩
        rw [prs_succ, hm]
        refine Prs.snoc (((hps.same st).same su).poke (su _ _ (st _ _ hDl))) (tup_poke (SqT.of upd_same) (su _ _ (st _ _ hDl)))
    · rintro H1 ⟨vs, sm, hDl, hps⟩
      rw [tab_len] at hps
      have B1 := B.on sm
      have hDr : ∀ r ∈ rows, D ≠ r := fun r hr z => by
        obtain ⟨xs, e⟩ := B.rs.mem hr
        rw [← z, hD] at e
        cases e
      refine ⟨_, rfl, p, C, dx, _, _, rfl, B1.hp, T.cl, T.nM, pf_least _ _, m, rfl, ⟨_, SqL.of B1.hm⟩, for_list (K := K) (a := m) (xs := rows.map V.ref) (fun i σ H' => ∃ y5 y6 y7 y8, σ = [some (.ref p), some (.int a), some (.int b), some (.int c), some (.ref D), y5, y6, y7, y8] ∧
        BAt0 C H0 H' p n (addI M a b c i) k dx l m rows lits ∧ H' D = some (.lst vs) ∧ Prs K H' vs (prs (M b) n)) ⟨_, _, _, _, rfl, ?_, hDl, hps⟩ (fun i σ H' _ h => ?_) ?_ ?_⟩
      · exact B1.congr fun i j _ _ => by rw [show addI M a b c 0 i = M i from if_neg (Nat.not_lt_zero _)]
      · obtain ⟨_, _, _, _, _, b', _⟩ := h
        exact SqL.of b'.hm
      · rintro i x σ H' hi ⟨y5, y6, y7, y8, rfl, B', hDl', hps'⟩
        rw [List.getElem?_map] at hi
        obtain ⟨r, hri, rfl⟩ := Option.map_eq_some_iff.mp hi
        have hin : i < n := by
          rw [← B'.rs.len]
          exact (List.getElem?_eq_some_iff.mp hri).1
        have hrow := B'.rs.at_ i r hri
        rw [addI_at] at hrow
        refine ⟨_, rfl, _, rfl, r, _, _, _, rfl, rfl, SqL.of hrow, tab_at ha, _, rfl, M i a, c, rfl, ?_⟩
        refine ⟨_, rfl, _, rfl, _, rfl, r, _, _, _, rfl, rfl, SqL.of hrow, tab_at hb, (M i a).map (· + c), M i b, rfl, _, rfl, ?_⟩
        cases hl : lessO ((M i a).map (· + c)) (M i b) with
        | false =>
          refine iteT ⟨_, _, _, _, rfl, B'.congr fun i' j' _ _ => ?_, hDl', hps'⟩
          rw [← addI_next]
          have : rowT M a b c i = addI M a b c i i := by
            rw [addI_at]
            unfold rowT
            cases hma : M i a with
            | none => rfl
            | some x =>
              rw [hma] at hl
              simp only
              rw [if_neg (by rw [show lessO (some (x + c)) (M i b) = false from hl]; decide)]
          rw [this, upF_id]
        | true =>
          obtain ⟨x, hx⟩ : ∃ x, M i a = some x := by
            cases hma : M i a with
            | none =>
              rw [hma] at hl
              cases hl
            | some x => exact ⟨x, rfl⟩
          rw [hx] at hl ⊢
          refine iteF ?_
          refine ⟨_, rfl, D, rfl, ⟨_, SqL.of hDl'⟩, for_list (K := K) (a := D) (xs := vs) (fun j σ H' => ∃ y5 y6, σ = [some (.ref p), some (.int a), some (.int b), some (.int c), some (.ref D), y5, y6, some (.ref r), some (.int (x + c))] ∧
            BAt0 C H0 H' p n (upF (addI M a b c i) i (ledR (x + c) (M i) (M b) (prs (M b) n) j)) k dx l m rows lits ∧ H' D = some (.lst vs) ∧ Prs K H' vs (prs (M b) n)) ⟨_, _, rfl, ?_, hDl', hps'⟩ (fun j σ H' _ h => ?_) ?_ ?_⟩
          · rw [led_zero, ← addI_at M a b c i, upF_id]
            exact B'
          · obtain ⟨_, _, _, _, e, _⟩ := h
            exact SqL.of e
          · rintro j v σ H2 hj ⟨z5, z6, rfl, B2, hD2, hp2⟩
            obtain ⟨t, pr, rfl, hpr, ht⟩ := hp2.at_ j v hj
            obtain ⟨n1, n2⟩ := led_next (hd := x + c) (row := M i) hpr
            have hq : pr.1 < n := ((prs_mem (q := pr.1) (y := pr.2)).mp (List.mem_of_getElem? hpr)).1
            have hrow2 := B2.rs.at_ i r hri
            rw [upF_same] at hrow2
            refine ⟨t, _, rfl, ht, rfl, _, _, rfl, _, _, rfl, rfl, ?_⟩
            refine ⟨_, rfl, _, rfl, _, _, rfl, rfl, _, rfl, _, rfl, r, _, _, _, rfl, rfl, SqL.of hrow2, tab_at hq, some (x + c + pr.2), M i pr.1, by rw [n2]; rfl, _, rfl, ?_⟩
            by_cases hless : lessO (some (x + c + pr.2)) (M i pr.1) = true
            · rw [hless]
              rw [if_pos hless] at n1
              refine iteT ⟨_, rfl, _, rfl, _, _, rfl, rfl, _, rfl, _, rfl, r, _, _, _, rfl, rfl, hrow2, ixN_nat (by rw [tab_len]; exact hq), ?_⟩
              have hDr' : D ≠ r := hDr r (List.mem_of_getElem? hri)
              refine ⟨_, _, rfl, ?_, by rw [upd_ne hDr']; exact hD2, hp2.poke hrow2⟩
              rw [oT_set, n1]
              have := B2.row hri (upF (ledR (x + c) (M i) (M b) (prs (M b) n) j) pr.1 (some (x + c + pr.2)))
              rw [upF_upF] at this
              exact this
            · rw [if_neg hless] at n1
              rw [Bool.eq_false_iff.mpr hless]
              refine iteF ⟨_, _, rfl, ?_, hD2, hp2⟩
              rw [n1]
              exact B2
          · rintro σ H2 ⟨z5, z6, rfl, B2, hD2, hp2⟩
            refine ⟨_, _, _, _, rfl, B2.congr fun i' j' hi' hj' => ?_, hD2, hp2⟩
            rw [← addI_next]
            by_cases hii : i' = i
            · subst hii
              rw [upF_same, upF_same, hp2.len, led_end hj']
              unfold rowT
              rw [hx]
              simp only
              rw [if_pos (show lessO (some (x + c)) (M i' b) = true from hl)]
            · rw [upF_ne hii, upF_ne hii]
      · rintro σ H' ⟨y5, y6, y7, y8, rfl, B', _⟩
        refine q _ (B'.congr fun i' j' hi' _ => ?_).bat
        rw [List.length_map, B'.rs.len]
        show addI M a b c n i' j' = rowT M a b c i' j'
        rw [show addI M a b c n i' = rowT M a b c i' from if_pos hi']
/-! add: slots 0=self 1=a 2=b 3=c 4=back; cells []; calls ['is_less']; methods ['_shorten', 'bound'] -/
abbrev s_add : Stmt := inClass (top 18) 4
theorem sc_add : FnScope ["self", "a", "b", "c", "back"] ["self", "a", "b", "c"] (defScope s_add) := ⟨rfl, rfl, rfl, by decide +kernel, rfl, by decide +kernel, by decide +kernel⟩
def sp_add (C : Addr) : Sp := fun vs H Q _ => ∃ (H0 : Hp) (p : Addr) (n : Nat) (M : Tab) (L : List Lit) (k a b : Nat) (c : Int), vs = [.ref p, .int a, .int b, .int c] ∧ BAt C H0 H p n M k ∧ Best M L ∧ k ≤ 500 ∧ a < n ∧ b < n ∧ n ≤ 80 ∧
  (∀ m, M b a = some m → m + c < 0 → Q (.bl false) H) ∧ ((∀ m, M b a = some m → 0 ≤ m + c) → ∀ H' M', BAt C H0 H' p n M' (k + 1) → Best M' (L ++ [⟨a, b, c⟩]) → Q (.bl true) H')
theorem ok_add {f : Addr} {fd : FuncData} (F : Fun K "add" "Bounds.add" s_add f fd) (T : Txt K mg C tk) (cis_less : Cal P w K mg base "is_less" ["first", "second"] 1 sp_is_less) (cbound : CalM P w K mg base C "bound" ["self", "a", "b"] 1 (sp_bound C))
    (c_shorten : CalM P w K mg base C "_shorten" ["self", "a", "b", "c"] 2 (sp_shorten C)) : FnOk P w K mg base CX0 3 f fd ["self", "a", "b", "c"] (sp_add C) := by
  refine F.ok sc_add (fun vs H Q E h => ?_) (fun cdv A outer s H vs Q E hr h => ?_)
  · obtain ⟨H0, p, n, M, L, k, a, b, c, rfl, _⟩ := h
    rfl
  · obtain ⟨H0, p, n, M, L, k, a, b, c, rfl, hB, hM, hk, ha, hb, hn, q1, q2⟩ := h
    obtain ⟨dx, l, m, rows, lits, B⟩ := id hB
    refine ⟨_, (pss_cons (ps_set (i := 4) sc_add.nd rfl (Or.inl rfl) (pe_meth (pv 0) T.cl cbound.me cbound.ok (hr.mono (by decide)) cbound.b .nil pass0 (pa_cons (pv 2) (pa_cons (pv 1) pa_nil))))
      (pss_cons (ps_if (PW.pt (pw_and (pt_cmpR op_notN (pv 4) pe_non (nomark _)) (pw_and1 (pt_cmpR op_lt (pe_op op_add (pv 4) (pv 3)) pe_int (nomark _)))))
      (pss_one (ps_ret pe_bl))
      pss_nil)
      (pss_cons (ps_expr (pe_bm PySem.F.plainAttrs_list PySem.F.slot_list_append PySem.F.type_list_append mt_append (fldK (K := K) rfl (pv 0) rfl) (pa_cons (pe_tup (pa_cons (pv 1) (pa_cons (pv 2) (pa_cons (pv 3) pa_nil)))) pa_nil)))
      (pss_cons (ps_if (pt_val (pe_call cis_less.ok (hr.mono (by decide)) (by rfl) cis_less.mg cis_less.kp cis_less.b .nil pass0 (pa_cons (pv 3) (pa_cons (pe_ix (ixL (K := K)) (pe_ix (ixL (K := K)) (fldK (K := K) rfl (pv 0) rfl) (pv 1) (fun _ _ => rfl)) (pv 2) (fun _ _ => rfl)) pa_nil))))
      (pss_one (ps_expr (pe_meth (pv 0) T.cl c_shorten.me c_shorten.ok (hr.mono (by decide)) c_shorten.b .nil pass0 (pa_cons (pv 1) (pa_cons (pv 2) (pa_cons (pv 3) pa_nil))))))
      pss_nil)
      (pss_one (ps_ret pe_bl)))))), ?_⟩
    refine ⟨_, rfl, p, dx, _, rfl, B.hp, pf_no _ _ (by decide +kernel) (by decide +kernel), _, rfl, _, rfl, H0, p, n, M, k, b, a, rfl, hB, hb, ha, ?_⟩
    refine ⟨_, rfl, rfl, _, rfl, ?_⟩
    have go : (∀ m, M b a = some m → 0 ≤ m + c) → ∀ y, y = optV (M b a) → tSeq (tDrop (tBM K "list" rAppend (tFld K (tVar 0) "_literals") (tCons (tTup (tCons (tVar 1) (tCons (tVar 2) (tCons (tVar 3) tNil)))) tNil)))
        (tSeq (tIfS (tB (tCall sp_is_less [] E0 (tCons (tVar 3) (tCons (tOp (rIxL K) (tOp (rIxL K) (tFld K (tVar 0) "_least") (tVar 1)) (tVar 2)) tNil)))) (tDrop (tMeth C "_shorten" (sp_shorten C) [] E0 (tVar 0) (tCons (tVar 1) (tCons (tVar 2) (tCons (tVar 3) tNil))))) tNext)
          (tRet (tC (.bl true)))) { nx := fun _ H' => Q .non H', rt := Q } [some (.ref p), some (.int a), some (.int b), some (.int c), some y] H := by
      intro hnn y hy
      refine ⟨_, rfl, p, C, dx, _, _, rfl, B.hp, T.cl, T.nL, pf_lits _ _, .inl ⟨rfl, _, SqL.of B.hl⟩, _, rfl, _, rfl, _, rfl, by show 3 ≤ sizeLine; decide, fun t ht => ?_⟩
      have Bt := (B.on (Same.upd (o := .tup [V.int a, V.int b, V.int c]) ht)).lit (.ref t)
      refine ⟨l, lits, _, rfl, rfl, (Same.upd ht) _ _ B.hl, small (by have := B.nl; omega), ?_⟩
      generalize upd (upd H t (.tup [V.int a, V.int b, V.int c])) l (.lst (lits ++ [.ref t])) = H1 at Bt ⊢
      obtain ⟨ra, hra, hara, hral⟩ := Bt.get ha
      refine ⟨_, rfl, _, rfl, p, C, dx, _, _, rfl, Bt.hp, T.cl, T.nM, pf_least _ _, _, rfl, m, _, _, _, rfl, rfl, SqL.of Bt.hm, hara, _, rfl, ra, _, _, _, rfl, rfl, SqL.of hral, tab_at hb, some c, M a b, rfl, _, rfl, ?_⟩
      cases hl : lessO (some c) (M a b) with
      | true =>
        refine iteT ⟨_, rfl, p, dx, _, rfl, Bt.hp, pf_no _ _ (by decide +kernel) (by decide +kernel), _, rfl, _, rfl, _, rfl, H0, p, n, M, k + 1, a, b, c, rfl, Bt.bat, ha, hb, hn, fun H' B' => ?_⟩
        exact q2 hnn H' _ B' (hM.add hnn)
      | false =>
        refine iteF ?_
        refine q2 hnn H1 M Bt.bat (hM.keep ?_)
        cases hab : M a b with
        | none =>
          rw [hab] at hl
          cases hl
        | some z =>
          rw [hab] at hl
          exact ⟨z, hab, by have := of_decide_eq_false hl; omega⟩
    cases hba : M b a with
    | none =>
      refine iteF (iteF ?_)
      exact go (fun z hz => by rw [hba] at hz; cases hz) _ (by rw [hba])
    | some z =>
      refine iteT ⟨_, rfl, _, rfl, _, _, rfl, rfl, _, _, rfl, rfl, _, rfl, ?_⟩
      by_cases hz : z + c < 0
      · rw [decide_eq_true hz]
        exact iteT (q1 z hba hz)
      · rw [decide_eq_false hz]
        refine iteF ?_
        exact go (fun z' hz' => by rw [hba] at hz'; cases hz'; omega) _ (by rw [hba])
end
end K20

namespace K20
open PySem L2
def lows (r : Nat → Option Int) (n : Nat) : List Int := (List.range n).filterMap r
theorem lows_succ (r : Nat → Option Int) (n : Nat) : lows r (n + 1) = lows r n ++ (match r n with | some y => [y] | none => []) := by
  unfold lows
  rw [List.range_succ, List.filterMap_append]
  congr 1
  cases h : r n <;> simp [h]
theorem lows_mem {r : Nat → Option Int} {n : Nat} {y : Int} : y ∈ lows r n ↔ ∃ q, q < n ∧ r q = some y := by
  unfold lows
  rw [List.mem_filterMap]
  exact ⟨fun ⟨q, a, b⟩ => ⟨q, List.mem_range.mp a, b⟩, fun ⟨q, a, b⟩ => ⟨q, List.mem_range.mpr a, b⟩⟩
theorem lows_len (r : Nat → Option Int) (n : Nat) : (lows r n).length ≤ n := by
  have := List.length_filterMap_le r (List.range n)
  rw [List.length_range] at this
  exact this
section
variable {P : Program} {w : World} {K : PySem.W.Frag} {mg : Str → Option Value} {base : Heap} {C : Addr} {tk : Tok}
/-! _low: slots 0=self 1=points 2=found 3=a 4=b; cells ['a', 'self']; calls []; methods [] -/
abbrev s_low : Stmt := inClass (top 18) 6
theorem sc_low : FnScope ["self", "points", "found", "a", "b"] ["self", "points"] (defScope s_low) := ⟨rfl, rfl, rfl, by decide +kernel, rfl, by decide +kernel, by decide +kernel⟩
def sp_low (K : PySem.W.Frag) (C : Addr) : Sp := fun vs H Q _ => ∃ (H0 : Hp) (p : Addr) (n : Nat) (M : Tab) (k : Nat) (l : Addr), vs = [.ref p, .ref l] ∧ BAt C H0 H p n M k ∧ SqL K H l (iT n fun i => (i : Int)) ∧ n ≤ 80 ∧ (∀ a, M a a = some 0) ∧
  ∀ (H' : Hp) (d : Addr) (kvs : List (Key × V)) (low : Nat → Int), Same H H' → H' d = some (.dK kvs) → (∀ a, a < n → valV kvs (Sum.inl (a : Int)) = some (.int (low a)) ∧ IsLow M n a (low a)) → Q (.ref d) H'
theorem ok_low {f : Addr} {fd : FuncData} (F : Fun K "_low" "Bounds._low" s_low f fd) (T : Txt K mg C tk) : FnOk P w K mg base CX0 1 f fd ["self", "points"] (sp_low K C) := by
  refine F.ok sc_low (fun vs H Q E h => ?_) (fun cdv A outer s H vs Q E hr h => ?_)
  · obtain ⟨H0, p, n, M, k, l, rfl, _⟩ := h
    rfl
  · obtain ⟨H0, p, n, M, k, l, rfl, ⟨dx, l1, m, rows, lits, B⟩, hl, hn, hdiag, q⟩ := h
    have hu := hu_of hr
    refine ⟨_, (pss_cons (ps_set (i := 2) sc_low.nd rfl (Or.inl rfl) pe_dnewK)
      (pss_cons (ps_for PassesOwn.never rfl (pi_list (pv 1)) (pg_name (i := 3) sc_low.nd rfl (Or.inr rfl))
      (pss_one (ps_dput hu (pv 2) (pv 3) (pe_callB (cr_min rfl) (by rfl) T.min (by decide +kernel) (pa_cons (pe_lc (own := [("b", 4)]) rfl sc_low.nd (pi_list (pv 1)) (blkOk_by (own := [("b", 4)]) (N := ["self", "points", "found", "a", "b"]) (sc := defScope s_low) (by decide +kernel)) (fun _ _ _ _ _ => (pg_name (i := 4) sc_low.nd rfl (Or.inl rfl) (.inr rfl))) (fun _ _ _ _ _ => (pts_one (pt_cmpR op_notN (pe_ix (ixL (K := K)) (pe_ix (ixL (K := K)) (fldK (K := K) rfl (pv 0) rfl) (pv 3) (fun _ _ => rfl)) (pv 4) (fun _ _ => rfl)) pe_non (nomark _)))) (fun _ _ _ _ _ => (pe_ix (ixL (K := K)) (pe_ix (ixL (K := K)) (fldK (K := K) rfl (pv 0) rfl) (pv 3) (fun _ _ => rfl)) (pv 4) (fun _ _ => rfl)))) pa_nil)) rfl)))
      (pss_one (ps_ret (pv 2))))), ?_⟩
    intro d hd
    refine ⟨_, rfl, l, rfl, ⟨_, (Same.upd hd).seq hl⟩, for_list (K := K) (a := l) (xs := iT n fun i => (i : Int)) (fun i σ H' => ∃ (y3 y4 : Option V) (kvs : List (Key × V)) (low : Nat → Int), σ = [some (.ref p), some (.ref l), some (.ref d), y3, y4] ∧ Same H H' ∧ H' d = some (.dK kvs) ∧ kvs.length ≤ i ∧
      ∀ a, a < i → valV kvs (Sum.inl (a : Int)) = some (.int (low a)) ∧ IsLow M n a (low a)) ⟨none, none, [], fun _ => 0, rfl, Same.upd hd, upd_same, Nat.le_refl _, fun a h => absurd h (Nat.not_lt_zero _)⟩ (fun i σ H' _ h => ?_) ?_ ?_⟩
    · obtain ⟨_, _, _, _, _, s, _⟩ := h
      exact s.seq hl
    · rintro i x σ H' hi ⟨y3, y4, kvs, low, rfl, sm, hdd, hkl, hlow⟩
      have hin : i < n := by
        have := (List.getElem?_eq_some_iff.mp hi).1
        rwa [tab_len] at this
      rw [tab_get hin] at hi
      cases hi
      have B1 := B.on sm
      refine ⟨_, rfl, l, rfl, ⟨_, sm.seq hl⟩, fun D hD => lc_list (K := K) (a := l) (xs := iT n fun i => (i : Int)) (fun j H2 => Same H' H2 ∧ H2 D = some (.lst ((lows (M i) j).map V.int))) ⟨Same.upd hD, upd_same⟩ (fun j H2 _ h => h.1.seq (sm.seq hl)) ?_ ?_⟩
      · rintro j x H2 hj ⟨s2, hD2⟩
        have hjn : j < n := by
          have := (List.getElem?_eq_some_iff.mp hj).1
          rwa [tab_len] at this
        rw [tab_get hjn] at hj
        cases hj
        have B2 := B1.on s2
        obtain ⟨r, hr, har, hrr⟩ := B2.get hin
        refine ⟨rfl, _, rfl, p, C, dx, _, _, rfl, B2.hp, T.cl, T.nM, pf_least _ _, _, rfl, m, _, _, _, rfl, rfl, SqL.of B2.hm, har, _, rfl, r, _, _, _, rfl, rfl, SqL.of hrr, tab_at hjn, rfl, _, rfl, ?_⟩
        cases hm : M i j with
        | none =>
          refine iteF ⟨s2, ?_⟩
          rw [lows_succ, hm, List.append_nil]
          exact hD2
        | some y =>
          refine iteT ⟨_, rfl, p, C, dx, _, _, rfl, B2.hp, T.cl, T.nM, pf_least _ _, _, rfl, m, _, _, _, rfl, rfl, SqL.of B2.hm, har, _, rfl, r, _, _, _, rfl, rfl, SqL.of hrr, tab_at hjn, ?_⟩
          refine ⟨_, hD2, ?_, s2.poke hD, ?_⟩
          · rw [List.length_map]
            have := lows_len (M i) j
            exact small (by omega)
          · rw [upd_same, lows_succ, hm, List.map_append]
            rfl
      · rintro H2 ⟨s2, hD2⟩
        rw [tab_len] at hD2
        have h0 : (0 : Int) ∈ lows (M i) n := lows_mem.mpr ⟨i, hin, hdiag i⟩
        refine ⟨D, lows (M i) n, rfl, SqL.of hD2, List.length_pos_of_mem h0, fun mm hmm hle => ?_⟩
        refine ⟨_, rfl, _, rfl, d, _, rfl, DPut.k (k := Sum.inl (i : Int)) (s2 _ _ hdd) (small (by omega)), ?_⟩
        refine ⟨_, _, putK kvs (Sum.inl (i : Int)) (.int mm), upF low i mm, rfl, (sm.trans s2).poke hd, upd_same, ?_, fun a ha => ?_⟩
        · have := length_putK kvs (Sum.inl (i : Int) : Key) (.int mm)
          omega
        · rw [valV_put]
          by_cases hai : a = i
          · subst hai
            rw [if_pos rfl, upF_same]
            refine ⟨rfl, lows_mem.mp hmm, fun b m' hb e => hle m' (lows_mem.mpr ⟨b, hb, e⟩)⟩
          · rw [if_neg (fun z => hai (by have := Sum.inl.inj z; omega)), upF_ne hai]
            exact hlow a (by omega)
    · rintro σ H' ⟨y3, y4, kvs, low, rfl, sm, hdd, hkl, hlow⟩
      rw [tab_len] at hlow
      exact ⟨_, rfl, q H' d kvs low sm hdd hlow⟩
/-! any_values: slots 0=self 1=low 2=a; cells ['low']; calls ['moved']; methods ['_low', 'size'] -/
abbrev s_any_values : Stmt := inClass (top 18) 7
theorem sc_any_values : FnScope ["self", "low", "a"] ["self"] (defScope s_any_values) := ⟨rfl, rfl, rfl, by decide +kernel, rfl, by decide +kernel, by decide +kernel⟩
def sp_any_values (C : Addr) : Sp := fun vs H Q _ => ∃ (H0 : Hp) (p : Addr) (n : Nat) (M : Tab) (L : List Lit) (k : Nat), vs = [.ref p] ∧ BAt C H0 H p n M k ∧ Best M L ∧ 1 ≤ n ∧ n ≤ 80 ∧
  ∀ (H' : Hp) (t : Addr) (x : Nat → Int), Same H H' → H' t = some (.tup (iT n x)) → x 0 = 0 → (∀ a b m, a < n → b < n → M a b = some m → x a - x b ≤ m) → Q (.ref t) H'
theorem ok_any_values {f : Addr} {fd : FuncData} (F : Fun K "any_values" "Bounds.any_values" s_any_values f fd) (T : Txt K mg C tk) (cmoved : Cal P w K mg base "moved" ["values"] 1 (sp_moved K)) (csize : CalM P w K mg base C "size" ["self"] 1 (sp_size C))
    (c_low : CalM P w K mg base C "_low" ["self", "points"] 1 (sp_low K C)) : FnOk P w K mg base CX0 2 f fd ["self"] (sp_any_values C) := by
  refine F.ok sc_any_values (fun vs H Q E h => ?_) (fun cdv A outer s H vs Q E hr h => ?_)
  · obtain ⟨H0, p, n, M, L, k, rfl, _⟩ := h
    rfl
  · obtain ⟨H0, p, n, M, L, k, rfl, hB, hM, h1, h2, q⟩ := h
    obtain ⟨dx, l1, m, rows, lits, B⟩ := id hB
    have hu := hu_of hr
    have noS : (pf l1 m).lookup ("size" : Str) = none := pf_no _ _ (by decide +kernel) (by decide +kernel)
    have noL : (pf l1 m).lookup ("_low" : Str) = none := pf_no _ _ (by decide +kernel) (by decide +kernel)
    refine ⟨_, (pss_cons (ps_set (i := 1) sc_any_values.nd rfl (Or.inr rfl) (pe_meth (pv 0) T.cl c_low.me c_low.ok (hr.mono (by decide)) c_low.b .nil pass0 (pa_cons (pe_listRg rfl (by rfl) T.list (prg_1 (by rfl) T.range (pe_meth0 (pv 0) T.cl csize.me csize.ok (hr.mono (by decide)) csize.b .nil pass0))) pa_nil)))
      (pss_one (ps_ret (pe_call cmoved.ok (hr.mono (by decide)) (by rfl) cmoved.mg cmoved.kp cmoved.b .nil pass0 (pa_cons (pe_lc (own := [("a", 2)]) rfl sc_any_values.nd (pi_range1 rfl T.range (pa_cons (pe_meth0 (pv 0) T.cl csize.me csize.ok (hr.mono (by decide)) csize.b .nil pass0) pa_nil)) (blkOk_by (own := [("a", 2)]) (N := ["self", "low", "a"]) (sc := defScope s_any_values) (by decide +kernel)) (fun _ _ _ _ _ => (pg_name (i := 2) sc_any_values.nd rfl (Or.inl rfl) (.inr rfl))) (fun _ _ _ _ _ => pts_nil) (fun _ _ _ _ _ => (pe_dget hu (pv 1) (pv 2) (fun _ _ => rfl)))) pa_nil))))), ?_⟩
    refine ⟨_, rfl, p, dx, _, rfl, B.hp, noL, _, rfl, p, dx, _, rfl, B.hp, noS, H0, p, n, M, k, rfl, hB, ?_⟩
    refine ⟨_, rfl, RgOk.of_le (by omega) (by omega) (by omega) (by omega), fun l hl => ?_⟩
    have sl := Same.upd (o := .lst (rgV 0 (n : Int))) hl
    have ergV : rgV 0 (n : Int) = iT n fun i => (i : Int) := by
      show (List.range ((n : Int) - 0).toNat).map (fun i => V.int (0 + (i : Nat))) = (List.range n).map fun i : Nat => V.int (i : Int)
      rw [show ((n : Int) - 0).toNat = n from by omega]
      exact List.map_congr_left fun i _ => by rw [Int.zero_add]
    refine ⟨H0, p, n, M, k, l, rfl, hB.on sl, SqL.of (by rw [upd_same, ergV]), h2, hM.diag, fun H1 d kvs low s1 hd hlow => ?_⟩
    have B1 := (B.on sl).on s1
    refine ⟨_, rfl, p, dx, _, rfl, B1.hp, noS, H0, p, n, M, k, rfl, B1.bat, (n : Int), rfl, by omega, by omega, fun D hD => lc_range (lo := 0) (n := (n : Int).toNat) (PvT H1 D fun i => .int (low i)) (PvT.start hD) ?_ ?_⟩
    · rintro i H2 hi h
      have hin : i < n := by omega
      have hg : DGet H2 d (.int (0 + (i : Int))) (some (.int (low i))) := by
        have z := DGet.k (k := Sum.inl (i : Int)) (h.1 _ _ hd)
        rw [(hlow i hin).1] at z
        rw [Int.zero_add]
        exact z
      refine ⟨rfl, _, rfl, _, rfl, d, _, rfl, hg, ?_⟩
      exact h.next hD (by omega) (Same.refl _) rfl
    · rintro H2 h
      have h2' := h.2
      rw [show (n : Int).toNat = n from by omega] at h2'
      refine ⟨D, n, low, rfl, SqL.of h2', h1, h2, fun H3 t s3 ht => ?_⟩
      refine q H3 t _ ((sl.trans s1).trans (h.1.trans s3)) ht (by omega) fun a b mm ha hb e => ?_
      have := hM.low (hlow a ha).2 (hlow b hb).2 e
      omega
end
end K20

namespace K20
open PySem L2
theorem iL_at {xs : List Int} {z : Int} (h0 : 0 ≤ z) (h1 : z < xs.length) : ∃ v, atI (xs.map V.int) z = some (.int v) ∧ v ∈ xs := by
  have hz : z.toNat < xs.length := by omega
  refine ⟨xs[z.toNat], at_of (j := z.toNat) (by omega) ?_, List.getElem_mem hz⟩
  rw [List.getElem?_map, List.getElem?_eq_getElem hz]
  rfl
section
variable {P : Program} {w : World} {K : PySem.W.Frag} {mg : Str → Option Value} {base : Heap} {C : Addr} {tk : Tok}
/-! _law_numbers: slots 0=_law_script 1=_law_many 2=_law_numbers_here 3=_law_k 4=_law_cell 5=_law_j 6=_law_mixed 7=_law_base 8=_law_last; cells []; calls []; methods [] -/
abbrev s_law_numbers : Stmt := top 20
theorem sc_law_numbers : FnScope ["_law_script", "_law_many", "_law_numbers_here", "_law_k", "_law_cell", "_law_j", "_law_mixed", "_law_base", "_law_last"] ["_law_script", "_law_many"] (defScope s_law_numbers) := ⟨rfl, rfl, rfl, by decide +kernel, rfl, by decide +kernel, by decide +kernel⟩
def sp_law_numbers (K : PySem.W.Frag) : Sp := fun vs H Q _ => ∃ (a : Addr) (ns : List Int), vs = [.ref a, .int 70] ∧ SqL K H a (ns.map V.int) ∧ ns.length ≤ 63 ∧
  ∀ (H' : Hp) (l : Addr) (xs : List Int), Same H H' → H' l = some (.lst (xs.map V.int)) → xs.length = 70 → Q (.ref l) H'
/-- the list that is filled -/
structure NumA (H H' : Hp) (D : Addr) (xs : List Int) : Prop where
  sm : Same H H'
  hD : H' D = some (.lst (xs.map V.int))
theorem NumA.push {H H' : Hp} {D : Addr} {xs : List Int} (h : NumA H H' D xs) (hD : H D = none) (y : Int) : NumA H (upd H' D (.lst (xs.map V.int ++ [.int y]))) D (xs ++ [y]) :=
  ⟨h.sm.poke hD, by rw [upd_same, List.map_append]; rfl⟩
theorem ok_law_numbers {f : Addr} {fd : FuncData} (F : Fun K "_law_numbers" "_law_numbers" s_law_numbers f fd) (T : Txt K mg C tk) : FnOk P w K mg base CX0 1 f fd ["_law_script", "_law_many"] (sp_law_numbers K) := by
  refine F.ok sc_law_numbers (fun vs H Q E h => ?_) (fun cdv A outer s H vs Q E hr h => ?_)
  · obtain ⟨a, ns, rfl, _⟩ := h
    rfl
  · obtain ⟨a, ns, rfl, ha, hn, q⟩ := h
    refine ⟨_, (pss_cons (ps_set (i := 2) sc_law_numbers.nd rfl (Or.inl rfl) (pe_lst pa_nil))
      (pss_cons (ps_for PassesOwn.never rfl (pi_range1 rfl T.range (pa_cons (pe_callB call_len_seq (by rfl) T.len PySem.boot_len (pa_cons (pv 0) pa_nil)) pa_nil)) (pg_name (i := 3) sc_law_numbers.nd rfl (Or.inl rfl))
      (pss_cons (ps_set (i := 4) sc_law_numbers.nd rfl (Or.inl rfl) (pe_callB call_abs (by rfl) T.abs (by decide +kernel) (pa_cons (pe_callTy call_int1 (by rfl) T.int (by decide +kernel) (pa_cons (pe_ix (ixL (K := K)) (pv 0) (pv 3) (fun _ _ => rfl)) pa_nil)) pa_nil)))
        (pss_one (ps_if (pt_cmpR op_ge (pv 4) (pe_op op_pow pe_int pe_int) (nomark _))
        (pss_one (ps_for PassesOwn.never rfl (pi_range1 rfl T.range (pa_cons pe_int pa_nil)) (pg_name (i := 5) sc_law_numbers.nd rfl (Or.inl rfl))
          (pss_one (ps_if (PW.pt (pw_and (pt_cmpR op_gt (pv 4) pe_int (nomark _)) (pw_and1 (pt_cmpR op_lt (pe_callB call_len_seq (by rfl) T.len PySem.boot_len (pa_cons (pv 2) pa_nil)) (pv 1) (nomark _)))))
            (pss_cons (ps_expr (pe_bm PySem.F.plainAttrs_list PySem.F.slot_list_append PySem.F.type_list_append mt_append (pv 2) (pa_cons (pe_op op_mod (pv 4) pe_int) pa_nil)))
              (pss_one (ps_set (i := 4) sc_law_numbers.nd rfl (Or.inl rfl) (pe_op op_fdiv (pv 4) pe_int))))
            pss_nil))))
        (pss_one (ps_if (pt_cmpR op_lt (pe_callB call_len_seq (by rfl) T.len PySem.boot_len (pa_cons (pv 2) pa_nil)) (pv 1) (nomark _))
          (pss_cons (ps_set (i := 6) sc_law_numbers.nd rfl (Or.inl rfl) (pe_op op_mod (pe_callTy call_int1 (by rfl) T.int (by decide +kernel) (pa_cons (pe_op op_add (pe_op op_add (pe_op op_mul (pv 4) pe_int) (pe_op op_mul (pv 3) pe_int)) pe_int) pa_nil)) pe_int))
            (pss_one (ps_expr (pe_bm PySem.F.plainAttrs_list PySem.F.slot_list_append PySem.F.type_list_append mt_append (pv 2) (pa_cons (pe_op op_fdiv (pe_op op_mod (pe_callTy call_int1 (by rfl) T.int (by decide +kernel) (pa_cons (pe_op op_add (pe_op op_add (pe_op op_mul (pv 6) pe_int) (pe_op op_mul pe_int (pv 3))) pe_int) pa_nil)) pe_int) pe_int) pa_nil)))))
          pss_nil))))))
      (pss_cons (ps_set (i := 7) sc_law_numbers.nd rfl (Or.inl rfl) (pe_callB call_len_seq (by rfl) T.len PySem.boot_len (pa_cons (pv 2) pa_nil)))
      (pss_cons (ps_set (i := 8) sc_law_numbers.nd rfl (Or.inl rfl) (pe_op op_add pe_int (pe_callB call_len_seq (by rfl) T.len PySem.boot_len (pa_cons (pv 0) pa_nil))))
      (pss_cons (ps_for PassesOwn.never rfl (pi_range1 rfl T.range (pa_cons (pe_callB (call_max2 rfl) (by rfl) T.max (by decide +kernel) (pa_cons pe_int (pa_cons (pe_op op_sub (pv 1) (pv 7)) pa_nil))) pa_nil)) (pg_name (i := 3) sc_law_numbers.nd rfl (Or.inl rfl))
      (pss_cons (ps_if (pt_cmpR op_gt (pv 7) pe_int (nomark _))
        (pss_one (ps_set (i := 8) sc_law_numbers.nd rfl (Or.inl rfl) (pe_op op_add (pv 8) (pe_ix (ixL (K := K)) (pv 2) (pe_op op_mod (pv 3) (pv 7)) (fun _ _ => rfl)))))
        pss_nil)
        (pss_cons (ps_set (i := 8) sc_law_numbers.nd rfl (Or.inl rfl) (pe_op op_mod (pe_callTy call_int1 (by rfl) T.int (by decide +kernel) (pa_cons (pe_op op_add (pe_op op_mul (pv 8) pe_int) (pv 3)) pa_nil)) pe_int))
        (pss_one (ps_expr (pe_bm PySem.F.plainAttrs_list PySem.F.slot_list_append PySem.F.type_list_append mt_append (pv 2) (pa_cons (pe_op op_fdiv (pv 8) pe_int) pa_nil)))))))
      (pss_one (ps_ret (pe_slice sl_list (pv 2) po_none (po_some (pv 1)))))))))), ?_⟩
    refine ⟨Nat.zero_le _, fun D hD => ?_⟩
    have s0 := Same.upd (o := .lst []) hD
    refine ⟨_, rfl, a, _, rfl, .inl (s0.seq ha), ((ns.map V.int).length : Int), rfl, by rw [List.length_map]; omega, by rw [List.length_map]; omega, for_range (lo := 0) (n := ((ns.map V.int).length : Int).toNat) (fun i σ H' => ∃ (y3 y4 y5 y6 y7 y8 : Option V) (xs : List Int),
      σ = [some (.ref a), some (.int 70), some (.ref D), y3, y4, y5, y6, y7, y8] ∧ NumA H H' D xs ∧ xs.length ≤ 70) ⟨none, none, none, none, none, none, [], rfl, ⟨s0, upd_same⟩, by simp⟩ ?_ ?_⟩
    · rintro i σ H' hi ⟨y3, y4, y5, y6, y7, y8, xs, rfl, na, hx⟩
      have hin : i < ns.length := by
        rw [List.length_map] at hi
        omega
      obtain ⟨v, hv, _⟩ := iL_at (xs := ns) (z := 0 + (i : Int)) (by omega) (by omega)
      refine ⟨_, rfl, _, rfl, a, _, _, _, rfl, rfl, na.sm.seq ha, hv, .inl ⟨_, rfl, _, rfl, ?_⟩⟩
      refine ⟨_, rfl, _, _, rfl, rfl, ⟨by decide, by decide, by decide⟩, _, _, rfl, rfl, _, rfl, ite2 (fun _ => ?_) (fun _ => ?_)⟩
      · refine ⟨60, rfl, by decide, by decide, for_range (lo := 0) (n := (60 : Int).toNat) (fun j σ H' => ∃ (y5 y6 y7 y8 : Option V) (c : Int) (xs : List Int),
          σ = [some (.ref a), some (.int 70), some (.ref D), some (.int (0 + (i : Int))), some (.int c), y5, y6, y7, y8] ∧ NumA H H' D xs ∧ xs.length ≤ 70) ⟨_, _, _, _, _, xs, rfl, na, hx⟩ ?_ ?_⟩
        · rintro j σ H2 hj ⟨z5, z6, z7, z8, c, xs, rfl, na, hx⟩
          refine ⟨_, rfl, _, _, rfl, rfl, _, rfl, ite2 (fun _ => ?_) (fun _ => ?_)⟩
          · refine ⟨_, rfl, D, _, rfl, .inl (SqL.of na.hD), _, rfl, _, _, rfl, rfl, _, rfl, ite2 (fun hlt => ?_) (fun _ => ?_)⟩
            · have hlt := of_decide_eq_true hlt
              rw [List.length_map] at hlt
              refine ⟨_, rfl, .inl ⟨rfl, _, SqL.of na.hD⟩, _, rfl, _, _, rfl, rfl, (by show (0 : Int) < 10007; decide), D, _, _, rfl, rfl, na.hD, small (by rw [List.length_map]; omega), ?_⟩
              refine ⟨_, rfl, _, _, rfl, rfl, ⟨by decide, by decide⟩, ?_⟩
              exact ⟨_, _, _, _, _, _, rfl, na.push hD _, by simp; omega⟩
            · exact ⟨_, _, _, _, _, xs, rfl, na, hx⟩
          · exact ite2 (fun z => by cases z) fun _ => ⟨_, _, _, _, _, xs, rfl, na, hx⟩
        · rintro σ H2 ⟨z5, z6, z7, z8, c, xs, rfl, na, hx⟩
          exact ⟨_, _, _, _, _, _, xs, rfl, na, hx⟩
      · refine ⟨_, rfl, D, _, rfl, .inl (SqL.of na.hD), _, rfl, _, _, rfl, rfl, _, rfl, ite2 (fun hlt => ?_) (fun _ => ?_)⟩
        · have hlt := of_decide_eq_true hlt
          rw [List.length_map] at hlt
          refine ⟨_, rfl, _, _, rfl, rfl, .inr ⟨by decide, by decide⟩, _, rfl, _, _, rfl, rfl, .inr ⟨by decide, by decide⟩, _, _, rfl, rfl, _, _, rfl, rfl, .inl ⟨_, rfl, _, _, rfl, rfl, (by show (0 : Int) < 2147483647; decide), ?_⟩⟩
          refine ⟨_, rfl, .inl ⟨rfl, _, SqL.of na.hD⟩, _, rfl, _, _, rfl, rfl, .inr ⟨by decide, by decide⟩, _, rfl, _, _, rfl, rfl, .inl ⟨by decide, by decide⟩, _, _, rfl, rfl, _, _, rfl, rfl, .inl ⟨_, rfl, _, _, rfl, rfl, (by show (0 : Int) < 2147483647; decide), _, _, rfl, rfl, ⟨by decide, by decide⟩, ?_⟩⟩
          refine ⟨D, _, _, rfl, rfl, na.hD, small (by rw [List.length_map]; omega), ?_⟩
          exact ⟨_, _, _, _, _, _, _, rfl, na.push hD _, by simp; omega⟩
        · exact ⟨_, _, _, _, _, _, xs, rfl, na, hx⟩
    · rintro σ H1 ⟨y3, y4, y5, y6, y7, y8, xs, rfl, na, hx⟩
      refine ⟨_, rfl, D, _, rfl, .inl (SqL.of na.hD), ?_⟩
      refine ⟨_, rfl, a, _, rfl, .inl (na.sm.seq ha), _, _, rfl, rfl, ?_⟩
      refine ⟨_, rfl, _, rfl, _, _, rfl, rfl, 0, _, rfl, (if (70 : Int) - ((xs.map V.int).length : Int) > 0 then (70 : Int) - ((xs.map V.int).length : Int) else 0), rfl, by split <;> omega, by split <;> omega, for_range (lo := 0) (n := (if (70 : Int) - ((xs.map V.int).length : Int) > 0 then (70 : Int) - ((xs.map V.int).length : Int) else 0).toNat)
        (fun i σ H' => ∃ (y3 y4 y5 y6 : Option V) (z : Int) (ys : List Int), σ = [some (.ref a), some (.int 70), some (.ref D), y3, y4, y5, y6, some (.int ((xs.map V.int).length : Nat)), some (.int z)] ∧ NumA H H' D ys ∧ ys.length = xs.length + i) ⟨_, _, _, _, _, xs, rfl, na, rfl⟩ ?_ ?_⟩
      · rintro i σ H2 hi ⟨z3, z4, z5, z6, z, ys, rfl, na, hy⟩
        have hi70 : xs.length + i < 70 := by
          rw [List.length_map] at hi
          split at hi <;> omega
        have fin : ∀ z' : Int, tSeq (tAsg (tOp (rI (fun _ j => 0 < j) fun i j => .int (i % j)) (tCB (fun xs H Q => (∃ i, xs = [V.int i] ∧ Q (.int i) H) ∨ ∃ k, xs = [.bl k] ∧ Q (.int (if k then 1 else 0)) H) (tCons (tOp (rI0 fun i j => .int (i + j)) (tOp (rI CMul fun i j => .int (i * j)) (tVar 8) (tC (.int 48271))) (tVar 3)) tNil)) (tC (.int 2147483647))) (gName 8))
            (tDrop (tBM K "list" rAppend (tVar 2) (tCons (tOp (rI CDiv fun i j => .int (i / j)) (tVar 8) (tC (.int 7))) tNil)))
            { nx := fun σ H' => ∃ (y3 y4 y5 y6 : Option V) (z : Int) (ys : List Int), σ = [some (.ref a), some (.int 70), some (.ref D), y3, y4, y5, y6, some (.int ((xs.map V.int).length : Nat)), some (.int z)] ∧ NumA H H' D ys ∧ ys.length = xs.length + (i + 1), rt := Q }
            [some (.ref a), some (.int 70), some (.ref D), some (.int (0 + (i : Int))), z4, z5, z6, some (.int ((xs.map V.int).length : Nat)), some (.int z')] H2 := by
          intro z'
          refine ⟨_, rfl, _, _, rfl, rfl, .inr ⟨by decide, by decide⟩, _, rfl, _, _, rfl, rfl, .inl ⟨_, rfl, _, _, rfl, rfl, (by show (0 : Int) < 2147483647; decide), ?_⟩⟩
          refine ⟨_, rfl, .inl ⟨rfl, _, SqL.of na.hD⟩, _, rfl, _, _, rfl, rfl, ⟨by decide, by decide⟩, D, _, _, rfl, rfl, na.hD, small (by rw [List.length_map]; omega), ?_⟩
          exact ⟨_, _, _, _, _, _, rfl, na.push hD _, by simp; omega⟩
        refine ⟨_, rfl, _, _, rfl, rfl, _, rfl, ite2 (fun hp => ?_) (fun _ => fin z)⟩
        have hp := of_decide_eq_true hp
        obtain ⟨v, hv, _⟩ := iL_at (xs := ys) (z := (0 + (i : Int)) % ((xs.map V.int).length : Int)) (Int.emod_nonneg _ (by omega)) (by
          have := Int.emod_lt_of_pos (0 + (i : Int)) hp
          rw [List.length_map] at this ⊢
          omega)
        refine ⟨_, rfl, _, rfl, _, rfl, _, rfl, _, _, rfl, rfl, hp, D, _, _, _, rfl, rfl, SqL.of na.hD, hv, _, _, rfl, rfl, fin _⟩
      · rintro σ H2 ⟨z3, z4, z5, z6, z, ys, rfl, na, hy⟩
        have h70 : ys.length = 70 := by
          rw [List.length_map] at hy
          split at hy <;> omega
        refine ⟨_, rfl, _, rfl, 70, rfl, D, _, rfl, SqL.of na.hD, fun r hr' => ?_⟩
        refine q _ r ys (na.sm.trans (Same.upd hr')) ?_ h70
        rw [upd_same]
        refine congrArg (fun z => some (HO.lst z)) ?_
        unfold cutV
        rw [HT.sIx_none, show HT.sIx (ys.map V.int).length (ys.map V.int).length (some 70) = min 70 (ys.map V.int).length from HT.sIx_nat _ _ 70, List.drop_zero, List.length_map, h70]
        exact List.take_of_length_le (by rw [List.length_map]; omega)
/-! _law_literals: slots 0=_law_numbers_here 1=_law_at 2=_law_n 3=_law_count 4=_law_size 5=_law_literals_here 6=_law_k 7=_law_number 8=_law_a 9=_law_b; cells []; calls []; methods [] -/
abbrev s_law_literals : Stmt := top 21
theorem sc_law_literals : FnScope ["_law_numbers_here", "_law_at", "_law_n", "_law_count", "_law_size", "_law_literals_here", "_law_k", "_law_number", "_law_a", "_law_b"] ["_law_numbers_here", "_law_at", "_law_n", "_law_count", "_law_size"] (defScope s_law_literals) := ⟨rfl, rfl, rfl, by decide +kernel, rfl, by decide +kernel, by decide +kernel⟩
def sp_law_literals (K : PySem.W.Frag) : Sp := fun vs H Q _ => ∃ (l : Addr) (xs : List Int) (at_ : Int) (n : Nat) (cnt size : Int), vs = [.ref l, .int at_, .int n, .int cnt, .int size] ∧ SqL K H l (xs.map V.int) ∧ xs.length = 70 ∧ 1 ≤ n ∧ 0 ≤ cnt ∧ cnt ≤ 100 ∧ 0 ≤ size ∧
  ∀ (H' : Hp) (r : Addr) (lvs : List V) (L : List Lit), H r = none → Same H H' → H' r = some (.lst lvs) → Lits K H' lvs L → Pts n L → L.length ≤ 100 → Q (.ref r) H'
theorem ok_law_literals {f : Addr} {fd : FuncData} (F : Fun K "_law_literals" "_law_literals" s_law_literals f fd) (T : Txt K mg C tk) : FnOk P w K mg base CX0 1 f fd ["_law_numbers_here", "_law_at", "_law_n", "_law_count", "_law_size"] (sp_law_literals K) := by
  refine F.ok sc_law_literals (fun vs H Q E h => ?_) (fun cdv A outer s H vs Q E hr h => ?_)
  · obtain ⟨l, xs, at_, n, cnt, size, rfl, _⟩ := h
    rfl
  · obtain ⟨l, xs, at_, n, cnt, size, rfl, hl, h70, hn, hc0, hc1, hs0, q⟩ := h
    refine ⟨_, (pss_cons (ps_set (i := 5) sc_law_literals.nd rfl (Or.inl rfl) (pe_lst pa_nil))
      (pss_cons (ps_for PassesOwn.never rfl (pi_range1 rfl T.range (pa_cons (pv 3) pa_nil)) (pg_name (i := 6) sc_law_literals.nd rfl (Or.inl rfl))
      (pss_cons (ps_set (i := 7) sc_law_literals.nd rfl (Or.inl rfl) (pe_ix (ixL (K := K)) (pv 0) (pe_op op_mod (pe_callTy call_int1 (by rfl) T.int (by decide +kernel) (pa_cons (pe_op op_add (pv 1) (pv 6)) pa_nil)) (pe_callB call_len_seq (by rfl) T.len PySem.boot_len (pa_cons (pv 0) pa_nil))) (fun _ _ => rfl)))
        (pss_cons (ps_set (i := 8) sc_law_literals.nd rfl (Or.inl rfl) (pe_op op_mod (pv 7) (pv 2)))
        (pss_cons (ps_set (i := 9) sc_law_literals.nd rfl (Or.inl rfl) (pe_op op_mod (pe_op op_fdiv (pv 7) pe_int) (pv 2)))
        (pss_one (ps_expr (pe_bm PySem.F.plainAttrs_list PySem.F.slot_list_append PySem.F.type_list_append mt_append (pv 5) (pa_cons (pe_tup (pa_cons (pv 8) (pa_cons (pv 9) (pa_cons (pe_op op_sub (pe_op op_mod (pe_op op_fdiv (pv 7) pe_int) (pe_op op_add (pe_op op_mul pe_int (pv 4)) pe_int)) (pe_op op_fdiv (pv 4) pe_int)) pa_nil)))) pa_nil))))))))
      (pss_one (ps_ret (pv 5))))), ?_⟩
    refine ⟨Nat.zero_le _, fun D hD => ?_⟩
    refine ⟨_, rfl, cnt, rfl, by omega, by omega, for_range (lo := 0) (n := cnt.toNat) (fun i σ H' => ∃ (y6 y7 y8 y9 : Option V) (lvs : List V) (L : List Lit), σ = [some (.ref l), some (.int at_), some (.int n), some (.int cnt), some (.int size), some (.ref D), y6, y7, y8, y9] ∧
      Same H H' ∧ H' D = some (.lst lvs) ∧ Lits K H' lvs L ∧ Pts n L ∧ L.length = i) ⟨_, _, _, _, [], [], rfl, Same.upd hD, upd_same, .nil, (fun e he => by simp at he), rfl⟩ ?_ ?_⟩
    · rintro i σ H' hi ⟨y6, y7, y8, y9, lvs, L, rfl, sm, hDl, hL, hp, hlen⟩
      have hl' := sm.seq hl
      have hpos : (0 : Int) < ((xs.map V.int).length : Nat) := by
        rw [List.length_map]
        omega
      obtain ⟨v, hv, _⟩ := iL_at (xs := xs) (z := (at_ + (0 + (i : Int))) % ((xs.map V.int).length : Nat)) (Int.emod_nonneg _ (by omega)) (by
        have := Int.emod_lt_of_pos (at_ + (0 + (i : Int))) hpos
        rw [List.length_map] at this ⊢
        omega)
      have hn' : (0 : Int) < (n : Int) := by omega
      refine ⟨_, rfl, _, rfl, _, rfl, _, _, rfl, rfl, .inl ⟨_, rfl, _, rfl, l, _, rfl, .inl hl', _, _, rfl, rfl, hpos, l, _, _, _, rfl, rfl, hl', hv, ?_⟩⟩
      refine ⟨_, rfl, _, rfl, _, _, rfl, rfl, hn', ?_⟩
      refine ⟨_, rfl, _, _, rfl, rfl, ⟨by decide, by decide⟩, _, rfl, _, _, rfl, rfl, hn', ?_⟩
      refine ⟨_, rfl, .inl ⟨rfl, _, SqL.of hDl⟩, _, rfl, _, rfl, _, rfl, _, _, rfl, rfl, ⟨by decide, by decide⟩, _, rfl, _, _, rfl, rfl, .inl ⟨by decide, by decide⟩, _, _, rfl, rfl, _, _, rfl, rfl, (by show (0 : Int) < 2 * size + 1; omega),
        _, rfl, _, _, rfl, rfl, ⟨by decide, by decide⟩, _, _, rfl, rfl, by show 3 ≤ sizeLine; decide, fun t ht => ?_⟩
      have a1 := Int.emod_nonneg v (show (n : Int) ≠ 0 by omega)
      have a2 := Int.emod_lt_of_pos v hn'
      have b1 := Int.emod_nonneg (v / 11) (show (n : Int) ≠ 0 by omega)
      have b2 := Int.emod_lt_of_pos (v / 11) hn'
      refine ⟨D, lvs, _, rfl, rfl, (Same.upd ht) _ _ hDl, small (by rw [hL.len]; omega), ?_⟩
      refine ⟨_, _, _, _, _, L ++ [⟨(v % (n : Int)).toNat, (v / 11 % (n : Int)).toNat, v / 143 % (2 * size + 1) - size / 2⟩], rfl, (sm.trans (Same.upd ht)).poke hD, upd_same, ?_, fun e he => ?_, by simp [hlen]⟩
      · refine Lits.snoc ((hL.same (Same.upd ht)).poke ((Same.upd ht) _ _ hDl)) (tup_poke (SqT.of ?_) ((Same.upd ht) _ _ hDl))
        rw [upd_same]
        refine congrArg (fun z => some (HO.tup z)) ?_
        show [V.int (v % (n : Int)), V.int (v / 11 % (n : Int)), V.int (v / 143 % (2 * size + 1) - size / 2)] = [V.int (((v % (n : Int)).toNat : Nat) : Int), V.int (((v / 11 % (n : Int)).toNat : Nat) : Int), V.int (v / 143 % (2 * size + 1) - size / 2)]
        rw [Int.toNat_of_nonneg a1, Int.toNat_of_nonneg b1]
      · rcases List.mem_append.mp he with he | he
        · exact hp e he
        · rw [List.mem_singleton] at he
          subst he
          exact ⟨by show (v % (n : Int)).toNat < n; omega, by show (v / 11 % (n : Int)).toNat < n; omega⟩
    · rintro σ H' ⟨y6, y7, y8, y9, lvs, L, rfl, sm, hDl, hL, hp, hlen⟩
      exact ⟨_, rfl, q H' D lvs L hD sm hDl hL hp (by omega)⟩
end
end K20

namespace K20
open PySem L2
section
variable {P : Program} {w : World} {K : PySem.W.Frag} {mg : Str → Option Value} {base : Heap} {C : Addr} {tk : Tok}
/-! _law_taken: slots 0=_law_n 1=_law_literals_here 2=_law_bounds 3=_law_a 4=_law_b 5=_law_c; cells []; calls []; methods ['add'] -/
abbrev s_law_taken : Stmt := top 22
theorem sc_law_taken : FnScope ["_law_n", "_law_literals_here", "_law_bounds", "_law_a", "_law_b", "_law_c"] ["_law_n", "_law_literals_here"] (defScope s_law_taken) := ⟨rfl, rfl, rfl, by decide +kernel, rfl, by decide +kernel, by decide +kernel⟩
def sp_law_taken (K : PySem.W.Frag) (C : Addr) : Sp := fun vs H Q _ => ∃ (n : Nat) (l : Addr) (lvs : List V) (L : List Lit), vs = [.int n, .ref l] ∧ 1 ≤ n ∧ n ≤ 80 ∧ SqL K H l lvs ∧ Lits K H lvs L ∧ Pts n L ∧ L.length ≤ 200 ∧
  (¬ Feas L → ∀ H', Same H H' → Q .non H') ∧ (Feas L → ∀ (H' : Hp) (p : Addr) (M : Tab), BAt C H H' p n M L.length → Best M L → Q (.ref p) H')
theorem ok_law_taken {f : Addr} {fd : FuncData} (F : Fun K "_law_taken" "_law_taken" s_law_taken f fd) (T : Txt K mg C tk) (c__init__ : CalI P w K mg base C ["self", "n"] 2 (sp_init C)) (cadd : CalM P w K mg base C "add" ["self", "a", "b", "c"] 3 (sp_add C)) :
    FnOk P w K mg base CX0 4 f fd ["_law_n", "_law_literals_here"] (sp_law_taken K C) := by
  refine F.ok sc_law_taken (fun vs H Q E h => ?_) (fun cdv A outer s H vs Q E hr h => ?_)
  · obtain ⟨n, l, lvs, L, rfl, _⟩ := h
    rfl
  · obtain ⟨n, l, lvs, L, rfl, h1, h2, hl, hL, hp, hlen, q1, q2⟩ := h
    refine ⟨_, (pss_cons (ps_set (i := 2) sc_law_taken.nd rfl (Or.inl rfl) (pe_make c__init__.mkc c__init__.ok (hr.mono (by decide)) (by rfl) T.mgC c__init__.b .nil pass0 (pa_cons (pv 0) pa_nil)))
      (pss_cons (ps_for PassesOwn.never rfl (pi_list (pv 1)) (pg_tup rfl (pgs_cons (pg_name (i := 3) sc_law_taken.nd rfl (Or.inl rfl)) (pgs_cons (pg_name (i := 4) sc_law_taken.nd rfl (Or.inl rfl)) (pgs_cons (pg_name (i := 5) sc_law_taken.nd rfl (Or.inl rfl)) pgs_nil))))
      (pss_one (ps_if (pt_not (pt_val (pe_meth (pv 2) T.cl cadd.me cadd.ok (hr.mono (by decide)) cadd.b .nil pass0 (pa_cons (pv 3) (pa_cons (pv 4) (pa_cons (pv 5) pa_nil))))))
        (pss_one (ps_ret pe_non))
        pss_nil)))
      (pss_one (ps_ret (pv 2))))), ?_⟩
    refine ⟨_, rfl, ?_⟩
    intro x dx nx ndx nex
    have s0 : Same H (upd (upd H dx (.own x)) x (.ins C dx [])) := ((Same.refl H).poke ndx).poke nx
    refine ⟨H, x, dx, n, rfl, s0, nx, upd_same, h1, h2, fun H1 B1 => ⟨rfl, ?_⟩⟩
    refine ⟨_, rfl, l, rfl, ⟨_, B1.same.seq hl⟩, for_list (K := K) (a := l) (xs := lvs) (fun i σ H' => ∃ (y3 y4 y5 : Option V) (M : Tab), σ = [some (.int n), some (.ref l), some (.ref x), y3, y4, y5] ∧ BAt C H H' x n M i ∧ Best M (L.take i)) ⟨_, _, _, tab0, rfl, B1, by rw [List.take_zero]; exact best0⟩ (fun i σ H' _ h => ?_) ?_ ?_⟩
    · obtain ⟨_, _, _, _, _, B, _⟩ := h
      exact B.same.seq hl
    · rintro i v σ H' hi ⟨y3, y4, y5, M, rfl, B, hM⟩
      obtain ⟨t, e, rfl, he, ht⟩ := hL.at_ i v hi
      obtain ⟨ha, hb⟩ := hp e (List.mem_of_getElem? he)
      have hil : i < L.length := (List.getElem?_eq_some_iff.mp he).1
      have htk : L.take (i + 1) = L.take i ++ [⟨e.a, e.b, e.c⟩] := by
        rw [List.take_add_one, he]
        rfl
      obtain ⟨dx1, l1, m1, rows1, lits1, b1⟩ := id B
      refine ⟨t, litV e, rfl, B.same.tup ht, rfl, _, _, rfl, _, _, rfl, _, _, rfl, rfl, ?_⟩
      refine ⟨_, rfl, x, dx1, _, rfl, b1.hp, pf_no _ _ (by decide +kernel) (by decide +kernel), _, rfl, _, rfl, _, rfl, H, x, n, M, L.take i, i, e.a, e.b, e.c, rfl, B, hM, by omega, ha, hb, h2, fun m hm hlt => ?_, fun _ H2 M' B' hM' => ?_⟩
      · refine ⟨_, rfl, iteT (q1 (hM.refused hm hlt (fun e' he' => List.mem_of_mem_take he') (List.mem_of_getElem? he)) _ B.same)⟩
      · refine ⟨_, rfl, iteF ⟨_, _, _, M', rfl, B', ?_⟩⟩
        rw [htk]
        exact hM'
    · rintro σ H' ⟨y3, y4, y5, M, rfl, B, hM⟩
      rw [hL.len] at B hM
      rw [List.take_length] at hM
      exact ⟨_, rfl, q2 (hM.feas hp) H' x M B hM⟩
/-! _law_table: slots 0=_law_bounds 1=_law_n 2=_law_rows 3=_law_a 4=_law_b; cells ['_law_a', '_law_bounds']; calls []; methods ['bound', 'size'] -/
abbrev s_law_table : Stmt := top 23
theorem sc_law_table : FnScope ["_law_bounds", "_law_n", "_law_rows", "_law_a", "_law_b"] ["_law_bounds"] (defScope s_law_table) := ⟨rfl, rfl, rfl, by decide +kernel, rfl, by decide +kernel, by decide +kernel⟩
def sp_law_table (C : Addr) : Sp := fun vs H Q _ => ∃ (H0 : Hp) (p : Addr) (n : Nat) (M : Tab) (k : Nat), vs = [.ref p] ∧ BAt C H0 H p n M k ∧ n ≤ 80 ∧ ∀ (H' : Hp) (t : Addr), Same H H' → TAt H' t n M → Q (.ref t) H'
theorem ok_law_table {f : Addr} {fd : FuncData} (F : Fun K "_law_table" "_law_table" s_law_table f fd) (T : Txt K mg C tk) (csize : CalM P w K mg base C "size" ["self"] 1 (sp_size C)) (cbound : CalM P w K mg base C "bound" ["self", "a", "b"] 1 (sp_bound C)) :
    FnOk P w K mg base CX0 2 f fd ["_law_bounds"] (sp_law_table C) := by
  refine F.ok sc_law_table (fun vs H Q E h => ?_) (fun cdv A outer s H vs Q E hr h => ?_)
  · obtain ⟨H0, p, n, M, k, rfl, _⟩ := h
    rfl
  · obtain ⟨H0, p, n, M, k, rfl, hB, hn, q⟩ := h
    obtain ⟨dx, l, m, rows, lits, B⟩ := id hB
    have noB : (pf l m).lookup ("bound" : Str) = none := pf_no _ _ (by decide +kernel) (by decide +kernel)
    refine ⟨_, (pss_cons (ps_set (i := 1) sc_law_table.nd rfl (Or.inl rfl) (pe_meth0 (pv 0) T.cl csize.me csize.ok (hr.mono (by decide)) csize.b .nil pass0))
      (pss_cons (ps_set (i := 2) sc_law_table.nd rfl (Or.inl rfl) (pe_lst pa_nil))
      (pss_cons (ps_for PassesOwn.never rfl (pi_range1 rfl T.range (pa_cons (pv 1) pa_nil)) (pg_name (i := 3) sc_law_table.nd rfl (Or.inr rfl))
      (pss_one (ps_expr (pe_bm PySem.F.plainAttrs_list PySem.F.slot_list_append PySem.F.type_list_append mt_append (pv 2) (pa_cons (pe_lc (own := [("_law_b", 4)]) rfl sc_law_table.nd (pi_range1 rfl T.range (pa_cons (pv 1) pa_nil)) (blkOk_by (own := [("_law_b", 4)]) (N := ["_law_bounds", "_law_n", "_law_rows", "_law_a", "_law_b"]) (sc := defScope s_law_table) (by decide +kernel)) (fun _ _ _ _ _ => (pg_name (i := 4) sc_law_table.nd rfl (Or.inl rfl) (.inr rfl))) (fun _ _ _ _ _ => pts_nil) (fun _ _ _ _ _ => (pe_meth (pv 0) T.cl cbound.me cbound.ok (hr.mono (by decide)) cbound.b .nil pass0 (pa_cons (pv 3) (pa_cons (pv 4) pa_nil))))) pa_nil)))))
      (pss_one (ps_ret (pv 2)))))), ?_⟩
    refine ⟨_, rfl, p, dx, _, rfl, B.hp, pf_no _ _ (by decide +kernel) (by decide +kernel), H0, p, n, M, k, rfl, hB, ?_⟩
    refine ⟨Nat.zero_le _, fun D hD => ?_⟩
    refine ⟨_, rfl, (n : Int), rfl, by omega, by omega, for_range (lo := 0) (n := (n : Int).toNat) (fun i σ H' => ∃ (y3 y4 : Option V) (rs : List Addr), σ = [some (.ref p), some (.int n), some (.ref D), y3, y4] ∧ RN H H' D rs n M ∧ rs.length = i) ⟨_, _, [], rfl, RN.start hD, rfl⟩ ?_ ?_⟩
    · rintro i σ H' hi ⟨y3, y4, rs, rfl, rn, hlen⟩
      have hin : i < n := by omega
      refine ⟨_, rfl, .inl ⟨rfl, _, SqL.of rn.hD⟩, _, rfl, (n : Int), rfl, by omega, by omega, fun D2 hD2 => lc_range (lo := 0) (n := (n : Int).toNat) (PvT H' D2 fun j => optV (M i j)) (PvT.start hD2) ?_ ?_⟩
      · rintro j H2 hj h
        have hjn : j < n := by omega
        have B2 := B.on (rn.same.trans h.1)
        refine ⟨rfl, _, rfl, p, dx, _, rfl, B2.hp, noB, _, rfl, _, rfl, H0, p, n, M, k, i, j, ?_, B2.bat, hin, hjn, ?_⟩
        · show [V.ref p, V.int (0 + (i : Int)), V.int (0 + (j : Int))] = [V.ref p, V.int (i : Int), V.int (j : Int)]
          rw [Int.zero_add, Int.zero_add]
        · exact h.next hD2 (by omega) (Same.refl _) rfl
      · rintro H2 h
        have h2' := h.2
        rw [show (n : Int).toNat = n from by omega] at h2'
        refine ⟨D, rs.map V.ref, _, rfl, rfl, h.1 _ _ rn.hD, small (by simp; omega), _, _, rs ++ [D2], rfl, ?_, by simp [hlen]⟩
        refine rn.next hD h.1 hD2 ?_
        rw [hlen]
        exact h2'
    · rintro σ H' ⟨y3, y4, rs, rfl, rn, hlen⟩
      refine ⟨_, rfl, q H' D rn.same ⟨rs, rn.hD, by omega, rn.at_⟩⟩
/-! _law_within: slots 0=_law_values 1=_law_table_here 2=_law_a 3=_law_b; cells []; calls []; methods [] -/
abbrev s_law_within : Stmt := top 24
theorem sc_law_within : FnScope ["_law_values", "_law_table_here", "_law_a", "_law_b"] ["_law_values", "_law_table_here"] (defScope s_law_within) := ⟨rfl, rfl, rfl, by decide +kernel, rfl, by decide +kernel, by decide +kernel⟩
def sp_law_within (K : PySem.W.Frag) : Sp := fun vs H Q _ => ∃ (a t : Addr) (n : Nat) (x : Nat → Int) (M : Tab), vs = [.ref a, .ref t] ∧ SqT K H a (iT n x) ∧ TAt H t n M ∧ n ≤ 80 ∧ (∀ p q m, p < n → q < n → M p q = some m → x p - x q ≤ m) ∧ Q (.bl true) H
theorem ok_law_within {f : Addr} {fd : FuncData} (F : Fun K "_law_within" "_law_within" s_law_within f fd) (T : Txt K mg C tk) : FnOk P w K mg base CX0 1 f fd ["_law_values", "_law_table_here"] (sp_law_within K) := by
  refine F.ok sc_law_within (fun vs H Q E h => ?_) (fun cdv A outer s H vs Q E hr h => ?_)
  · obtain ⟨a, t, n, x, M, rfl, _⟩ := h
    rfl
  · obtain ⟨a, t, n, x, M, rfl, ha, ⟨rows, ht, hrs⟩, hn, hx, q⟩ := h
    have hlen : (((rows.map V.ref).length : Nat) : Int) = (n : Int) := by rw [List.length_map, hrs.len]
    refine ⟨_, (pss_cons (ps_for PassesOwn.never rfl (pi_range1 rfl T.range (pa_cons (pe_callB call_len_seq (by rfl) T.len PySem.boot_len (pa_cons (pv 1) pa_nil)) pa_nil)) (pg_name (i := 2) sc_law_within.nd rfl (Or.inl rfl))
      (pss_one (ps_for PassesOwn.never rfl (pi_range1 rfl T.range (pa_cons (pe_callB call_len_seq (by rfl) T.len PySem.boot_len (pa_cons (pv 1) pa_nil)) pa_nil)) (pg_name (i := 3) sc_law_within.nd rfl (Or.inl rfl))
        (pss_one (ps_if (PW.pt (pw_and (pt_cmpR op_notN (pe_ix (ixL (K := K)) (pe_ix (ixL (K := K)) (pv 1) (pv 2) (fun _ _ => rfl)) (pv 3) (fun _ _ => rfl)) pe_non (nomark _)) (pw_and1 (pt_cmpR op_gt (pe_op op_sub (pe_ix (ixT (K := K)) (pv 0) (pv 2) (fun _ _ => rfl)) (pe_ix (ixT (K := K)) (pv 0) (pv 3) (fun _ _ => rfl))) (pe_ix (ixL (K := K)) (pe_ix (ixL (K := K)) (pv 1) (pv 2) (fun _ _ => rfl)) (pv 3) (fun _ _ => rfl)) (nomark _)))))
          (pss_one (ps_ret pe_bl))
          pss_nil)))))
      (pss_one (ps_ret pe_bl))), ?_⟩
    refine ⟨_, rfl, t, _, rfl, .inl (SqL.of ht), (((rows.map V.ref).length : Nat) : Int), rfl, by omega, by omega, for_range (lo := 0) (n := (((rows.map V.ref).length : Nat) : Int).toNat) (fun i σ H' => H = H' ∧ ∃ y2 y3, σ = [some (.ref a), some (.ref t), y2, y3]) ⟨rfl, _, _, rfl⟩ ?_ ?_⟩
    · rintro i σ H' hi ⟨rfl, y2, y3, rfl⟩
      have hin : i < n := by omega
      obtain ⟨r, hr, har, hrr⟩ := hrs.get hin
      have har' : atI (rows.map V.ref) (0 + (i : Int)) = some (.ref r) := at_of (Int.zero_add _) har
      refine ⟨_, rfl, t, _, rfl, .inl (SqL.of ht), (((rows.map V.ref).length : Nat) : Int), rfl, by omega, by omega, for_range (lo := 0) (n := (((rows.map V.ref).length : Nat) : Int).toNat) (fun j σ H' => H = H' ∧ ∃ y3, σ = [some (.ref a), some (.ref t), some (.int (0 + (i : Int))), y3]) ⟨rfl, _, rfl⟩ ?_ ?_⟩
      · rintro j σ H' hj ⟨rfl, y3, rfl⟩
        have hjn : j < n := by omega
        refine ⟨_, rfl, _, rfl, t, _, _, _, rfl, rfl, SqL.of ht, har', _, rfl, r, _, _, _, rfl, rfl, SqL.of hrr, at_of (Int.zero_add _) (tab_get hjn), rfl, _, rfl, ?_⟩
        cases hm : M i j with
        | none => exact iteF (iteF ⟨rfl, _, rfl⟩)
        | some z =>
          refine iteT ⟨_, rfl, _, rfl, a, _, _, _, rfl, rfl, ha, at_of (Int.zero_add _) (tab_get hin), _, rfl, _, rfl, a, _, _, _, rfl, rfl, ha, at_of (Int.zero_add _) (tab_get hjn), _, _, rfl, rfl, ?_⟩
          refine ⟨_, rfl, _, rfl, t, _, _, _, rfl, rfl, SqL.of ht, har', _, rfl, r, _, _, .int z, rfl, rfl, SqL.of hrr, at_of (Int.zero_add _) (by rw [tab_get hjn, hm]; rfl), _, _, rfl, rfl, _, rfl, ?_⟩
          have := hx i j z hin hjn hm
          rw [decide_eq_false (by omega)]
          exact iteF ⟨rfl, _, rfl⟩
      · rintro σ H' ⟨rfl, y3, rfl⟩
        exact ⟨rfl, _, _, rfl⟩
    · rintro σ H' ⟨rfl, y2, y3, rfl⟩
      exact q
end
end K20

namespace K20
open PySem L2
section
variable {P : Program} {w : World} {K : PySem.W.Frag} {mg : Str → Option Value} {base : Heap} {C : Addr} {tk : Tok}
/-! _law_either: slots 0=_law_n 1=_law_literals_here 2=_law_bounds 3=_law_ring; cells []; calls ['_law_taken', 'find_ring', 'is_ring', 'satisfies']; methods ['any_values'] -/
abbrev s_law_either : Stmt := top 25
theorem sc_law_either : FnScope ["_law_n", "_law_literals_here", "_law_bounds", "_law_ring"] ["_law_n", "_law_literals_here"] (defScope s_law_either) := ⟨rfl, rfl, rfl, by decide +kernel, rfl, by decide +kernel, by decide +kernel⟩
def sp_law_either (K : PySem.W.Frag) : Sp := fun vs H Q _ => ∃ (n : Nat) (l : Addr) (lvs : List V) (L : List Lit), vs = [.int n, .ref l] ∧ 1 ≤ n ∧ n ≤ 80 ∧ SqL K H l lvs ∧ Lits K H lvs L ∧ Pts n L ∧ L.length ≤ 100 ∧ ∀ H', Same H H' → Q (.bl true) H'
theorem ok_law_either {f : Addr} {fd : FuncData} (F : Fun K "_law_either" "_law_either" s_law_either f fd) (T : Txt K mg C tk) (c_law_taken : Cal P w K mg base "_law_taken" ["_law_n", "_law_literals_here"] 4 (sp_law_taken K C)) (cfind_ring : Cal P w K mg base "find_ring" ["n", "literals"] 3 (sp_find_ring K))
    (csatisfies : Cal P w K mg base "satisfies" ["values", "literals"] 1 (sp_satisfies K)) (cis_ring : Cal P w K mg base "is_ring" ["ring"] 1 (sp_is_ring K)) (cany_values : CalM P w K mg base C "any_values" ["self"] 2 (sp_any_values C)) :
    FnOk P w K mg base CX0 5 f fd ["_law_n", "_law_literals_here"] (sp_law_either K) := by
  refine F.ok sc_law_either (fun vs H Q E h => ?_) (fun cdv A outer s H vs Q E hr h => ?_)
  · obtain ⟨n, l, lvs, L, rfl, _⟩ := h
    rfl
  · obtain ⟨n, l, lvs, L, rfl, h1, h2, hl, hL, hp, hlen, q⟩ := h
    refine ⟨_, (pss_cons (ps_set (i := 2) sc_law_either.nd rfl (Or.inl rfl) (pe_call c_law_taken.ok (hr.mono (by decide)) (by rfl) c_law_taken.mg c_law_taken.kp c_law_taken.b .nil pass0 (pa_cons (pv 0) (pa_cons (pv 1) pa_nil))))
      (pss_cons (ps_set (i := 3) sc_law_either.nd rfl (Or.inl rfl) (pe_call cfind_ring.ok (hr.mono (by decide)) (by rfl) cfind_ring.mg cfind_ring.kp cfind_ring.b .nil pass0 (pa_cons (pv 0) (pa_cons (pv 1) pa_nil))))
      (pss_cons (ps_if (pt_cmpR op_notN (pv 2) pe_non (nomark _))
      (pss_one (ps_ret (pe_and (pe_cmpR op_isN (pv 3) pe_non (nomark _)) (pe_and (pe_call csatisfies.ok (hr.mono (by decide)) (by rfl) csatisfies.mg csatisfies.kp csatisfies.b .nil pass0 (pa_cons (pe_meth0 (pv 2) T.cl cany_values.me cany_values.ok (hr.mono (by decide)) cany_values.b .nil pass0) (pa_cons (pv 1) pa_nil))) (pe_one (pe_cmpR op_eq (pe_ix (ixT (K := K)) (pe_meth0 (pv 2) T.cl cany_values.me cany_values.ok (hr.mono (by decide)) cany_values.b .nil pass0) pe_int (fun _ _ => rfl)) pe_int (nomark _)))))))
      pss_nil)
      (pss_cons (ps_if (PW.pt (pw_or (pt_cmpR op_isN (pv 3) pe_non (nomark _)) (pw_or (pt_not (pt_val (pe_call cis_ring.ok (hr.mono (by decide)) (by rfl) cis_ring.mg cis_ring.kp cis_ring.b .nil pass0 (pa_cons (pv 3) pa_nil)))) (pw_or1 (pt_cmpR op_notN (pe_call c_law_taken.ok (hr.mono (by decide)) (by rfl) c_law_taken.mg c_law_taken.kp c_law_taken.b .nil pass0 (pa_cons (pv 0) (pa_cons (pe_callTy (listK (K := K)) (by rfl) T.list (by decide +kernel) (pa_cons (pv 3) pa_nil)) pa_nil))) pe_non (nomark _))))))
      (pss_one (ps_ret pe_bl))
      pss_nil)
      (pss_one (ps_ret (pe_cmpR op_notN (pe_call cfind_ring.ok (hr.mono (by decide)) (by rfl) cfind_ring.mg cfind_ring.kp cfind_ring.b .nil pass0 (pa_cons (pv 0) (pa_cons (pe_callTy (listK (K := K)) (by rfl) T.list (by decide +kernel) (pa_cons (pv 3) pa_nil)) pa_nil))) pe_non (nomark _)))))))), ?_⟩
    refine ⟨_, rfl, _, rfl, n, l, lvs, L, rfl, h1, h2, hl, hL, hp, by omega, fun hf H1 s1 => ?_, fun hf H1 p M B hM => ?_⟩
    · refine ⟨_, rfl, _, rfl, n, l, lvs, L, rfl, h1, h2, s1.seq hl, hL.same s1, hp, fun hf' => absurd hf' hf, fun H2 r rvs es s2 hr hes hF hle => ?_⟩
      have hpe : Pts n es := fun e he => hp e (hF.sub e he)
      refine ⟨_, rfl, rfl, _, rfl, iteF ?_⟩
      refine ⟨_, rfl, rfl, _, rfl, iteF ⟨_, rfl, r, rvs, es, rfl, SqT.of hr, hes, by omega, hF.ring, fun H3 s3 => ⟨_, rfl, iteF ?_⟩⟩⟩
      refine ⟨_, rfl, _, rfl, r, _, rfl, .inr (SqT.of (s3 _ _ hr)), fun l2 hl2 => ?_⟩
      have s4 := Same.upd (o := .lst rvs) hl2
      refine ⟨n, l2, rvs, es, rfl, h1, h2, SqL.of upd_same, hes.same (s3.trans s4), hpe, by omega, fun _ H5 s5 => ?_, fun hf' => absurd hf' hF.bad⟩
      refine ⟨rfl, _, rfl, iteF ?_⟩
      have s35 := (s3.trans s4).trans s5
      refine ⟨_, rfl, _, rfl, r, _, rfl, .inr (SqT.of (s35 _ _ hr)), fun l3 hl3 => ?_⟩
      have s6 := Same.upd (o := .lst rvs) hl3
      refine ⟨n, l3, rvs, es, rfl, h1, h2, SqL.of upd_same, hes.same (s35.trans s6), hpe, fun hf' => absurd hf' hF.bad, fun H7 r7 rvs7 es7 s7 _ _ _ _ => ⟨rfl, ?_⟩⟩
      exact q _ ((s1.trans s2).trans ((s35.trans s6).trans s7))
    · have s1 := B.same
      refine ⟨_, rfl, _, rfl, n, l, lvs, L, rfl, h1, h2, s1.seq hl, hL.same s1, hp, fun _ H2 s2 => ?_, fun H2 r rvs es s2 hr hes hF hle => absurd hf hF.bad'⟩
      refine ⟨_, rfl, rfl, _, rfl, iteT ?_⟩
      obtain ⟨dx, l1, m, rows, lits, b⟩ := B.on s2
      have noA : (pf l1 m).lookup ("any_values" : Str) = none := pf_no _ _ (by decide +kernel) (by decide +kernel)
      refine ⟨_, rfl, rfl, _, rfl, iteT ?_⟩
      refine ⟨_, rfl, p, dx, _, rfl, b.hp, noA, H, p, n, M, L, L.length, rfl, b.bat, hM, h1, h2, fun H3 t x s3 ht hx0 hx => ?_⟩
      have s13 := s1.trans (s2.trans s3)
      refine ⟨_, rfl, t, l, n, x, lvs, L, rfl, SqT.of ht, s13.seq hl, hL.same s13, hp, by omega, hM.sat hp hx, fun H4 s4 => ⟨_, rfl, iteT ?_⟩⟩
      have b4 := (b.on s3).on s4
      refine ⟨_, rfl, p, dx, _, rfl, b4.hp, noA, H, p, n, M, L, L.length, rfl, b4.bat, hM, h1, h2, fun H5 t5 x5 s5 ht5 hx50 hx5 => ?_⟩
      refine ⟨t5, _, 0, _, rfl, rfl, SqT.of ht5, tab_at (i := 0) (by omega), rfl, ?_⟩
      rw [hx50]
      exact q _ ((s13.trans s4).trans s5)
end
end K20

namespace K20
open PySem L2
theorem tab_psum (s : Nat → Int) : ∀ n, (tab n s).sum = psum s n
  | 0 => rfl
  | n + 1 => by
    rw [tab_succ, List.sum_append, tab_psum s n]
    simp [psum]
section
variable {P : Program} {w : World} {K : PySem.W.Frag} {mg : Str → Option Value} {base : Heap} {C : Addr} {tk : Tok}
/-! _law_long: slots 0=_law_numbers_here 1=_law_n 2=_law_target 3=_law_steps 4=_law_k 5=_law_literals_here 6=_law_ring 7=_law_one; cells ['_law_literals_here', '_law_n', '_law_numbers_here', '_law_steps']; calls ['find_ring', 'is_ring']; methods [] -/
abbrev s_law_long : Stmt := top 26
theorem sc_law_long : FnScope ["_law_numbers_here", "_law_n", "_law_target", "_law_steps", "_law_k", "_law_literals_here", "_law_ring", "_law_one"] ["_law_numbers_here"] (defScope s_law_long) := ⟨rfl, rfl, rfl, by decide +kernel, rfl, by decide +kernel, by decide +kernel⟩
def sp_law_long (K : PySem.W.Frag) : Sp := fun vs H Q _ => ∃ (l : Addr) (xs : List Int), vs = [.ref l] ∧ SqL K H l (xs.map V.int) ∧ xs.length = 70 ∧ ∀ H', Same H H' → Q (.bl true) H'
theorem ok_law_long {f : Addr} {fd : FuncData} (F : Fun K "_law_long" "_law_long" s_law_long f fd) (T : Txt K mg C tk) (cfind_ring : Cal P w K mg base "find_ring" ["n", "literals"] 3 (sp_find_ring K)) (cis_ring : Cal P w K mg base "is_ring" ["ring"] 1 (sp_is_ring K)) :
    FnOk P w K mg base CX0 4 f fd ["_law_numbers_here"] (sp_law_long K) := by
  refine F.ok sc_law_long (fun vs H Q E h => ?_) (fun cdv A outer s H vs Q E hr h => ?_)
  · obtain ⟨l, xs, rfl, _⟩ := h
    rfl
  · obtain ⟨l, xs, rfl, hl, h70, q⟩ := h
    have hu65 := hr.u65
    have gn : ∃ n : Nat, 10 + xs.getD 63 0 % 71 = (n : Int) ∧ 10 ≤ n ∧ n ≤ 80 := ⟨(10 + xs.getD 63 0 % 71).toNat, by omega, by omega, by omega⟩
    obtain ⟨n, en, hn1, hn2⟩ := gn
    have gt : ∃ t : Int, 0 - xs.getD 64 0 % 2 = t ∧ (t = 0 ∨ t = -1) := ⟨_, rfl, by omega⟩
    obtain ⟨tg, et, ht⟩ := gt
    refine ⟨_, (pss_cons (ps_set (i := 1) sc_law_long.nd rfl (Or.inr rfl) (pe_op op_add pe_int (pe_op op_mod (pe_ix (ixL (K := K)) (pv 0) pe_int (fun _ _ => rfl)) pe_int)))
      (pss_cons (ps_set (i := 2) sc_law_long.nd rfl (Or.inl rfl) (pe_op op_sub pe_int (pe_op op_mod (pe_ix (ixL (K := K)) (pv 0) pe_int (fun _ _ => rfl)) pe_int)))
      (pss_cons (ps_set (i := 3) sc_law_long.nd rfl (Or.inr rfl) (pe_lc (own := [("_law_k", 4)]) rfl sc_law_long.nd (pi_range1 rfl T.range (pa_cons (pe_op op_sub (pv 1) pe_int) pa_nil)) (blkOk_by (own := [("_law_k", 4)]) (N := ["_law_numbers_here", "_law_n", "_law_target", "_law_steps", "_law_k", "_law_literals_here", "_law_ring", "_law_one"]) (sc := defScope s_law_long) (by decide +kernel)) (fun _ _ _ _ _ => (pg_name (i := 4) sc_law_long.nd rfl (Or.inl rfl) (.inr rfl))) (fun _ _ _ _ _ => pts_nil) (fun _ _ _ _ _ => (pe_op op_sub (pe_op op_mod (pe_ix (ixL (K := K)) (pv 0) (pe_op op_mod (pe_callTy call_int1 (by rfl) T.int (by decide +kernel) (pa_cons (pv 4) pa_nil)) pe_int) (fun _ _ => rfl)) pe_int) pe_int))))
      (pss_cons (ps_expr (pe_bm PySem.F.plainAttrs_list PySem.F.slot_list_append PySem.F.type_list_append mt_append (pv 3) (pa_cons (pe_op op_sub (pv 2) (pe_callB (cr_sum rfl) (by rfl) T.sum (by decide +kernel) (pa_cons (pv 3) pa_nil))) pa_nil)))
      (C8.pss_cut (ps_set (i := 5) sc_law_long.nd rfl (Or.inr rfl) (pe_lc (own := [("_law_k", 4)]) rfl sc_law_long.nd (pi_range1 rfl T.range (pa_cons (pv 1) pa_nil)) (blkOk_by (own := [("_law_k", 4)]) (N := ["_law_numbers_here", "_law_n", "_law_target", "_law_steps", "_law_k", "_law_literals_here", "_law_ring", "_law_one"]) (sc := defScope s_law_long) (by decide +kernel)) (fun _ _ _ _ _ => (pg_name (i := 4) sc_law_long.nd rfl (Or.inl rfl) (.inr rfl))) (fun _ _ _ _ _ => pts_nil) (fun _ _ _ _ _ => (pe_tup (pa_cons (pv 4) (pa_cons (pe_op op_mod (pe_callTy call_int1 (by rfl) T.int (by decide +kernel) (pa_cons (pe_op op_add (pv 4) pe_int) pa_nil)) (pv 1)) (pa_cons (pe_ix (ixL (K := K)) (pv 3) (pv 4) (fun _ _ => rfl)) pa_nil)))))))
      (C8.pss_cut (ps_if (pt_cmpR op_eq (pe_op op_mod (pe_ix (ixL (K := K)) (pv 0) pe_int (fun _ _ => rfl)) pe_int) pe_int (nomark _))
      (pss_one (ps_set (i := 5) sc_law_long.nd rfl (Or.inr rfl) (pe_revL (pv 5))))
      pss_nil)
      (pss_cons (ps_for PassesOwn.never rfl (pi_range1 rfl T.range (pa_cons pe_int pa_nil)) (pg_name (i := 4) sc_law_long.nd rfl (Or.inl rfl))
      (pss_one (ps_expr (pe_bm PySem.F.plainAttrs_list PySem.F.slot_list_append PySem.F.type_list_append mt_append (pv 5) (pa_cons (pe_tup (pa_cons (pe_op op_mod (pe_ix (ixL (K := K)) (pv 0) (pv 4) (fun _ _ => rfl)) (pv 1)) (pa_cons (pe_op op_mod (pe_callTy call_int1 (by rfl) T.int (by decide +kernel) (pa_cons (pe_op op_add (pe_ix (ixL (K := K)) (pv 0) (pv 4) (fun _ _ => rfl)) pe_int) pa_nil)) (pv 1)) (pa_cons (pe_op op_add (pe_op op_mul pe_int (pv 1)) pe_int) pa_nil)))) pa_nil)))))
      (pss_cons (ps_set (i := 6) sc_law_long.nd rfl (Or.inl rfl) (pe_call cfind_ring.ok (hr.mono (by decide)) (by rfl) cfind_ring.mg cfind_ring.kp cfind_ring.b .nil pass0 (pa_cons (pv 1) (pa_cons (pv 5) pa_nil))))
      (pss_cons (ps_if (pt_cmpR op_eq (pv 2) pe_int (nomark _))
      (pss_one (ps_ret (pe_cmpR op_isN (pv 6) pe_non (nomark _))))
      pss_nil)
      (pss_one (ps_ret (pe_and (pe_cmpR op_notN (pv 6) pe_non (nomark _)) (pe_and (pe_call cis_ring.ok (hr.mono (by decide)) (by rfl) cis_ring.mg cis_ring.kp cis_ring.b .nil pass0 (pa_cons (pv 6) pa_nil)) (pe_one (pe_callB (cr_all rfl) (by rfl) T.all (by decide +kernel) (pa_cons (pe_lc (own := [("_law_one", 7)]) rfl sc_law_long.nd (pi_tup (pv 6)) (blkOk_by (own := [("_law_one", 7)]) (N := ["_law_numbers_here", "_law_n", "_law_target", "_law_steps", "_law_k", "_law_literals_here", "_law_ring", "_law_one"]) (sc := defScope s_law_long) (by decide +kernel)) (fun _ _ _ _ _ => (pg_name (i := 7) sc_law_long.nd rfl (Or.inl rfl) (.inr rfl))) (fun _ _ _ _ _ => pts_nil) (fun _ _ _ _ _ => (pe_cmpR (inDK (K := K) hu65) (pv 7) (pv 5) (by rfl)))) pa_nil)))))))))))))))), ?_⟩
    refine ⟨_, rfl, l, _, 63, _, rfl, rfl, hl, iL_getD' (j := 63) rfl (by omega), _, _, rfl, rfl, (by show (0 : Int) < 71; decide), _, _, rfl, rfl, ?_⟩
    dsimp only
    rw [en]
    refine ⟨_, rfl, l, _, 64, _, rfl, rfl, hl, iL_getD' (j := 64) rfl (by omega), _, _, rfl, rfl, (by show (0 : Int) < 2; decide), _, _, rfl, rfl, ?_⟩
    dsimp only
    rw [et]
    -- the steps
    refine ⟨_, rfl, _, _, rfl, rfl, (n : Int) - 1, rfl, by omega, by omega, fun D hD => lc_range (lo := 0) (n := ((n : Int) - 1).toNat) (PvT H D fun k => .int (xs.getD (k % 60) 0 % 9 - 4)) (PvT.start hD) ?_ ?_⟩
    · rintro i H' hi h
      refine ⟨rfl, _, rfl, _, rfl, .inl ⟨_, rfl, _, _, rfl, rfl, (by show (0 : Int) < 60; decide), l, _, _, _, rfl, rfl, h.1.seq hl, iL_getD' (j := i % 60) (by omega) (by omega), _, _, rfl, rfl, (by show (0 : Int) < 9; decide), _, _, rfl, rfl, ?_⟩⟩
      exact h.next hD (by omega) (Same.refl _) rfl
    · rintro H1 h1
      obtain ⟨N, eN⟩ : ∃ N, n = N + 1 := ⟨n - 1, by omega⟩
      have hst := h1.2
      rw [show ((n : Int) - 1).toNat = N from by omega] at hst
      have hst' : H1 D = some (.lst ((tab N fun k => xs.getD (k % 60) 0 % 9 - 4).map V.int)) := by
        rw [tab_map]
        exact hst
      refine ⟨_, rfl, .inl ⟨rfl, _, SqL.of hst⟩, _, rfl, _, rfl, D, _, rfl, SqL.of hst', _, _, rfl, rfl, D, _, _, rfl, rfl, hst, small (by rw [tab_len]; omega), ?_⟩
      have hs : ∃ s : Nat → Int, (tab N (fun k => V.int (xs.getD (k % 60) 0 % 9 - 4)) ++ [V.int (tg - (tab N fun k => xs.getD (k % 60) 0 % 9 - 4).sum)]) = iT n s ∧ (∀ k, k + 1 < n → -4 ≤ s k ∧ s k ≤ 4) ∧ psum s n = tg := by
        refine ⟨fun k => if k < N then xs.getD (k % 60) 0 % 9 - 4 else tg - (tab N fun k => xs.getD (k % 60) 0 % 9 - 4).sum, ?_, fun k hk => ?_, ?_⟩
        · rw [eN]
          show _ = tab (N + 1) _
          rw [tab_succ]
          congr 1
          · exact tab_congr fun k hk => by dsimp only; rw [if_pos hk]
          · dsimp only
            rw [if_neg (Nat.lt_irrefl _)]
        · show -4 ≤ (if k < N then xs.getD (k % 60) 0 % 9 - 4 else _) ∧ (if k < N then xs.getD (k % 60) 0 % 9 - 4 else _) ≤ 4
          rw [if_pos (by omega)]
          omega
        · rw [← tab_psum, eN, tab_succ, List.sum_append]
          have e1 : (tab N fun k => if k < N then xs.getD (k % 60) 0 % 9 - 4 else tg - (tab N fun k => xs.getD (k % 60) 0 % 9 - 4).sum) = tab N fun k => xs.getD (k % 60) 0 % 9 - 4 := tab_congr fun k hk => if_pos hk
          rw [e1]
          show (tab N fun k => xs.getD (k % 60) 0 % 9 - 4).sum + (([if N < N then xs.getD (N % 60) 0 % 9 - 4 else tg - (tab N fun k => xs.getD (k % 60) 0 % 9 - 4).sum] : List Int)).sum = tg
          rw [if_neg (Nat.lt_irrefl _), List.sum_cons, List.sum_nil]
          omega
      obtain ⟨s, es, hs1, hs2⟩ := hs
      dsimp only
      rw [es]
      have hD2 : (upd H1 D (.lst (iT n s))) D = some (.lst (iT n s)) := upd_same
      have s2 : Same H (upd H1 D (.lst (iT n s))) := h1.1.poke hD
      generalize upd H1 D (.lst (iT n s)) = H2 at hD2 s2 ⊢
      -- the literals
      refine ⟨fun σ H' => ∃ (y4 : Option V) (A : Addr) (lvs : List V) (L : List Lit), σ = [some (.ref l), some (.int n), some (.int tg), some (.ref D), y4, some (.ref A), none, none] ∧ Same H H' ∧ H A = none ∧ H' A = some (.lst lvs) ∧ Lits K H' lvs L ∧ L = tab n (cyc n s), ?_, ?_⟩
      · refine ⟨_, rfl, (n : Int), rfl, by omega, by omega, fun A hA => lc_range (lo := 0) (n := (n : Int).toNat) (fun i H' => ∃ lvs, Same H2 H' ∧ H' A = some (.lst lvs) ∧ Lits K H' lvs (tab i (cyc n s))) ⟨[], Same.upd hA, upd_same, .nil⟩ ?_ ?_⟩
        · rintro i H' hi ⟨lvs, sm, hAl, hL⟩
          have hin : i < n := by omega
          refine ⟨rfl, _, rfl, _, rfl, _, _, rfl, rfl, .inl ⟨_, rfl, _, rfl, _, _, rfl, rfl, (by show (0 : Int) < (n : Int); omega), _, rfl, _, rfl, D, _, _, _, rfl, rfl, SqL.of (sm _ _ hD2), at_of (Int.zero_add _) (tab_get hin), by show 3 ≤ sizeLine; decide, fun t ht => ?_⟩⟩
          refine ⟨lvs, (Same.upd ht) _ _ hAl, small (by rw [hL.len, tab_len]; omega), _, (sm.trans (Same.upd ht)).poke hA, upd_same, ?_⟩
          rw [tab_succ]
          refine Lits.snoc ((hL.same (Same.upd ht)).poke ((Same.upd ht) _ _ hAl)) (tup_poke (SqT.of ?_) ((Same.upd ht) _ _ hAl))
          rw [upd_same]
          refine congrArg (fun z => some (HO.tup z)) ?_
          show [V.int (0 + (i : Int)), V.int ((0 + (i : Int) + 1) % (n : Int)), V.int (s i)] = [V.int (i : Int), V.int (((i + 1) % n : Nat) : Int), V.int (s i)]
          rw [Int.zero_add, Int.natCast_emod]
          rfl
        · rintro H3 ⟨lvs, sm, hAl, hL⟩
          rw [show (n : Int).toNat = n from by omega] at hL
          exact ⟨_, A, lvs, _, rfl, s2.trans sm, s2.free hA, hAl, hL, rfl⟩
      · rintro σ H3 ⟨y4, A, lvs, L, rfl, s3, hA0, hAl, hL, eL⟩
        -- turned round, perhaps
        refine ⟨fun σ H' => ∃ (y4 : Option V) (A : Addr) (lvs : List V) (L : List Lit), σ = [some (.ref l), some (.int n), some (.int tg), some (.ref D), y4, some (.ref A), none, none] ∧ Same H H' ∧ H A = none ∧ H' A = some (.lst lvs) ∧ Lits K H' lvs L ∧ L.length = n ∧ ∀ e, e ∈ L ↔ e ∈ tab n (cyc n s), ?_, ?_⟩
        · refine ⟨_, rfl, l, _, 65, _, rfl, rfl, s3.seq hl, iL_getD' (j := 65) rfl (by omega), _, _, rfl, rfl, (by show (0 : Int) < 2; decide), rfl, _, rfl, ite2 (fun _ => ?_) (fun _ => ?_)⟩
          · refine ⟨_, rfl, A, lvs, rfl, SqL.of hAl, fun B hB => ?_⟩
            have sB := Same.upd (o := .lst lvs.reverse) hB
            exact ⟨_, B, _, L.reverse, rfl, s3.trans sB, s3.free hB, upd_same, hL.rev.same sB, by rw [List.length_reverse, eL, tab_len], fun e => by rw [List.mem_reverse, eL]⟩
          · exact ⟨_, A, lvs, L, rfl, s3, hA0, hAl, hL, by rw [eL, tab_len], fun e => by rw [eL]⟩
        · clear hL hAl hA0 s3 eL
          rintro σ H4 ⟨y4, A, lvs, L, rfl, s4, hA0, hAl, hL, hlen, hmem⟩
          have pts0 : Pts n L := fun e he => by
            obtain ⟨k, hk, rfl⟩ := tab_mem ((hmem e).mp he)
            exact ⟨hk, Nat.mod_lt _ (by omega)⟩
          -- three more
          refine ⟨3, rfl, by decide, by decide, for_range (lo := 0) (n := (3 : Int).toNat) (fun i σ H' => ∃ (y4 : Option V) (lvs : List V) (L' : List Lit), σ = [some (.ref l), some (.int n), some (.int tg), some (.ref D), y4, some (.ref A), none, none] ∧ Same H H' ∧ H' A = some (.lst lvs) ∧ Lits K H' lvs L' ∧
            L'.length = n + i ∧ Pts n L' ∧ (∀ e ∈ L, e ∈ L') ∧ (∀ e ∈ L', e ∈ L ∨ e.c = 4 * (n : Int) + 400)) ⟨_, lvs, L, rfl, s4, hAl, hL, hlen, pts0, fun _ h => h, fun _ h => .inl h⟩ ?_ ?_⟩
          · rintro i σ H5 hi ⟨y4, lvs, L', rfl, s5, hAl, hL, hlen, hp, hs1', hs2'⟩
            have hi3 : i < 3 := by omega
            have hnp : (0 : Int) < (n : Int) := by omega
            have hat := iL_getD' (xs := xs) (z := 0 + (i : Int)) (j := i) (Int.zero_add _) (by omega)
            refine ⟨_, rfl, .inl ⟨rfl, _, SqL.of hAl⟩, _, rfl, _, rfl, l, _, _, _, rfl, rfl, s5.seq hl, hat, _, rfl, _, _, rfl, rfl, hnp, _, rfl, _, rfl, l, _, _, _, rfl, rfl, s5.seq hl, hat, _, _, rfl, rfl, .inl ⟨_, rfl, _, rfl, _, _, rfl, rfl, hnp, _, rfl, _, _, rfl, rfl, .inl ⟨by decide, by decide⟩, _, _, rfl, rfl, by show 3 ≤ sizeLine; decide, fun t ht => ?_⟩⟩
            have a1 := Int.emod_nonneg (xs.getD i 0) (show (n : Int) ≠ 0 by omega)
            have a2 := Int.emod_lt_of_pos (xs.getD i 0) hnp
            have b1 := Int.emod_nonneg (xs.getD i 0 + 2) (show (n : Int) ≠ 0 by omega)
            have b2 := Int.emod_lt_of_pos (xs.getD i 0 + 2) hnp
            refine ⟨A, lvs, _, rfl, rfl, (Same.upd ht) _ _ hAl, small (by rw [hL.len]; omega), ?_⟩
            refine ⟨_, _, L' ++ [⟨(xs.getD i 0 % (n : Int)).toNat, ((xs.getD i 0 + 2) % (n : Int)).toNat, 4 * (n : Int) + 400⟩], rfl, (s5.trans (Same.upd ht)).poke hA0, upd_same, ?_, by simp [hlen]; omega, fun e he => ?_, fun e he => List.mem_append_left _ (hs1' e he), fun e he => ?_⟩
            · refine Lits.snoc ((hL.same (Same.upd ht)).poke ((Same.upd ht) _ _ hAl)) (tup_poke (SqT.of ?_) ((Same.upd ht) _ _ hAl))
              rw [upd_same]
              refine congrArg (fun z => some (HO.tup z)) ?_
              show [V.int (xs.getD i 0 % (n : Int)), V.int ((xs.getD i 0 + 2) % (n : Int)), V.int (4 * (n : Int) + 400)] = [V.int (((xs.getD i 0 % (n : Int)).toNat : Nat) : Int), V.int ((((xs.getD i 0 + 2) % (n : Int)).toNat : Nat) : Int), V.int (4 * (n : Int) + 400)]
              rw [Int.toNat_of_nonneg a1, Int.toNat_of_nonneg b1]
            · rcases List.mem_append.mp he with he | he
              · exact hp e he
              · rw [List.mem_singleton] at he
                subst he
                exact ⟨by show (xs.getD i 0 % (n : Int)).toNat < n; omega, by show ((xs.getD i 0 + 2) % (n : Int)).toNat < n; omega⟩
            · rcases List.mem_append.mp he with he | he
              · exact hs2' e he
              · rw [List.mem_singleton] at he
                subst he
                exact .inr rfl
          · rintro σ H5 ⟨y4, lvs, L', rfl, s5, hAl, hL, hlen, hp, hs1', hs2'⟩
            have feas : tg = 0 → Feas L' := fun h0 => cyc_feas (n := n) (s := s) (by omega) hn2 hs1 (by rw [hs2, h0]) fun e he => by
              rcases hs2' e he with h | h
              · exact .inl (tab_mem ((hmem e).mp h))
              · exact .inr ⟨(hp e he).1, (hp e he).2, by omega⟩
            have bad : tg = -1 → ¬ Feas L' := fun h0 => cyc_bad (n := n) (s := s) (by omega) (by omega) fun k hk => hs1' _ ((hmem _).mpr (by
              unfold tab
              exact List.mem_map.mpr ⟨k, List.mem_range.mpr hk, rfl⟩))
            refine ⟨_, rfl, _, rfl, n, A, lvs, L', rfl, by omega, hn2, SqL.of hAl, hL, hp, fun hf H6 s6 => ?_, fun H6 r rvs es s6 hr6 hes hF hle => ?_⟩
            · have t0 : tg = 0 := by
                rcases ht with h | h
                · exact h
                · exact absurd hf (bad h)
              refine ⟨_, rfl, rfl, _, rfl, ?_⟩
              rw [t0]
              exact iteT ⟨_, rfl, rfl, q _ (s5.trans s6)⟩
            · have t1 : tg = -1 := by
                rcases ht with h | h
                · exact absurd (feas h) hF.bad'
                · exact h
              refine ⟨_, rfl, rfl, _, rfl, ?_⟩
              rw [t1]
              refine iteF ⟨_, rfl, rfl, _, rfl, iteT ⟨_, rfl, r, rvs, es, rfl, SqT.of hr6, hes, by omega, hF.ring, fun H7 s7 => ⟨_, rfl, iteT ?_⟩⟩⟩
              have hr7 := s7 _ _ hr6
              have hes7 := hes.same s7
              have hA7 := s7 _ _ (s6 _ _ hAl)
              have hL7 := (hL.same s6).same s7
              refine ⟨_, rfl, r, rfl, ⟨_, SqT.of hr7⟩, fun D3 hD3 => lc_tup (K := K) (a := r) (xs := rvs) (PvT H7 D3 fun _ => .bl true) (PvT.start hD3) (fun i H' _ h => SqT.of (h.1 _ _ hr7)) ?_ ?_⟩
              · rintro i v H' hi h
                have hin : i < rvs.length := (List.getElem?_eq_some_iff.mp hi).1
                obtain ⟨t, e, rfl, he, hte⟩ := (hes7.same h.1).at_ i v hi
                refine ⟨rfl, _, rfl, _, rfl, litD e, L'.map litD, litD_dp hte, .lst (SqL.of (h.1 _ _ hA7)) (hL7.same h.1).dp, lit_shaped e, lits_shaped L', ?_⟩
                exact h.next hD3 (by rw [hes7.len] at hin; omega) (Same.refl _) (congrArg V.bl (lits_in (hF.sub e (List.mem_of_getElem? he))))
              · rintro H' h
                refine ⟨D3, tab rvs.length fun _ => true, rfl, .inl (.inl ?_), ?_⟩
                · rw [tab_map]
                  exact h.2
                · rw [tab_all fun _ _ => rfl]
                  exact q _ ((s5.trans s6).trans (s7.trans h.1))
end
end K20

namespace K20
open PySem L2
/-- what the law holds behind its drawing -/
structure LawE (K : PySem.W.Frag) (H : Hp) (l : Addr) (xs : List Int) (t : Addr) (n : Nat) (x : Nat → Int) (D : Addr) (lvs : List V) (L : List Lit) : Prop where
  num : SqL K H l (xs.map V.int)
  val : H t = some (.tup (iT n x))
  lst : H D = some (.lst lvs)
  lits : Lits K H lvs L
theorem LawE.on {K : PySem.W.Frag} {H H' : Hp} {l : Addr} {xs : List Int} {t : Addr} {n : Nat} {x : Nat → Int} {D : Addr} {lvs : List V} {L : List Lit} (h : LawE K H l xs t n x D lvs L) (s : Same H H') : LawE K H' l xs t n x D lvs L :=
  ⟨s.seq h.num, s _ _ h.val, s _ _ h.lst, h.lits.same s⟩
theorem at3 {a b c : Int} {z : Int} : ∃ v, atI [V.int a, V.int b, V.int c] (z % 3) = some (.int v) ∧ (v = a ∨ v = b ∨ v = c) := by
  have h : z % 3 = 0 ∨ z % 3 = 1 ∨ z % 3 = 2 := by omega
  rcases h with h | h | h
  · exact ⟨a, by rw [h]; rfl, .inl rfl⟩
  · exact ⟨b, by rw [h]; rfl, .inr (.inl rfl)⟩
  · exact ⟨c, by rw [h]; rfl, .inr (.inr rfl)⟩
theorem prod_small (b : Bool) (y : Int) : -(2 ^ 64) < (if b then (1 : Int) else 0) * (y % 61 - 30) ∧ (if b then (1 : Int) else 0) * (y % 61 - 30) < 2 ^ 64 := by
  cases b
  · simp
  · simp
    omega
theorem TAt.look {H : Hp} {t : Addr} {n : Nat} {M : Tab} (h : TAt H t n M) {a b : Nat} (ha : a < n) (hb : b < n) : ∃ xs r ys, H t = some (.lst xs) ∧ atI xs (a : Int) = some (.ref r) ∧ H r = some (.lst ys) ∧ atI ys (b : Int) = some (optV (M a b)) := by
  obtain ⟨rows, h1, h2⟩ := h
  obtain ⟨r, e1, e2, e3⟩ := h2.get ha
  exact ⟨_, r, _, h1, atI_nat e2, e3, tab_at hb⟩
theorem nat_of_mod {v : Int} {n : Nat} (hn : 1 ≤ n) : ∃ a : Nat, v % (n : Int) = (a : Int) ∧ a < n := by
  have h1 := Int.emod_nonneg v (show (n : Int) ≠ 0 by omega)
  have h2 := Int.emod_lt_of_pos v (show (0 : Int) < (n : Int) by omega)
  exact ⟨(v % (n : Int)).toNat, by omega, by omega⟩
section
variable {P : Program} {w : World} {K : PySem.W.Frag} {mg : Str → Option Value} {base : Heap} {C : Addr} {tk : Tok}
/-! law: slots 0=_law_script 1=_law_numbers_here 2=_law_n 3=_law_great 4=_law_values 5=_law_k 6=_law_literals_here 7=_law_a 8=_law_b 9=_law_c 10=_law_bounds 11=_law_turned 12=_law_table_here 13=_law_told 14=_law_just 15=_law_other; cells ['_law_great', '_law_numbers_here']; calls ['_law_either', '_law_literals', '_law_long', '_law_numbers', '_law_table', '_law_taken', '_law_within', 'find_ring', 'satisfies']; methods ['add', 'any_values', 'bound', 'copy'] -/
abbrev s_law : Stmt := top 27
theorem sc_law : FnScope ["_law_script", "_law_numbers_here", "_law_n", "_law_great", "_law_values", "_law_k", "_law_literals_here", "_law_a", "_law_b", "_law_c", "_law_bounds", "_law_turned", "_law_table_here", "_law_told", "_law_just", "_law_other"] ["_law_script"] (defScope s_law) := ⟨rfl, rfl, rfl, by decide +kernel, rfl, by decide +kernel, by decide +kernel⟩
def sp_law (K : PySem.W.Frag) : Sp := fun vs H Q _ => ∃ (a : Addr) (ns : List Int), vs = [.ref a] ∧ SqL K H a (ns.map V.int) ∧ ns.length ≤ 63 ∧ ∀ H', Q (.bl true) H'
theorem ok_law {f : Addr} {fd : FuncData} (F : Fun K "law" "law" s_law f fd) (T : Txt K mg C tk)
    (c_law_numbers : Cal P w K mg base "_law_numbers" ["_law_script", "_law_many"] 1 (sp_law_numbers K))
    (c_law_literals : Cal P w K mg base "_law_literals" ["_law_numbers_here", "_law_at", "_law_n", "_law_count", "_law_size"] 1 (sp_law_literals K))
    (c_law_either : Cal P w K mg base "_law_either" ["_law_n", "_law_literals_here"] 5 (sp_law_either K))
    (c_law_long : Cal P w K mg base "_law_long" ["_law_numbers_here"] 4 (sp_law_long K))
    (c_law_taken : Cal P w K mg base "_law_taken" ["_law_n", "_law_literals_here"] 4 (sp_law_taken K C))
    (c_law_table : Cal P w K mg base "_law_table" ["_law_bounds"] 2 (sp_law_table C))
    (c_law_within : Cal P w K mg base "_law_within" ["_law_values", "_law_table_here"] 1 (sp_law_within K))
    (cfind_ring : Cal P w K mg base "find_ring" ["n", "literals"] 3 (sp_find_ring K)) (csatisfies : Cal P w K mg base "satisfies" ["values", "literals"] 1 (sp_satisfies K))
    (cany_values : CalM P w K mg base C "any_values" ["self"] 2 (sp_any_values C)) (cadd : CalM P w K mg base C "add" ["self", "a", "b", "c"] 3 (sp_add C))
    (cbound : CalM P w K mg base C "bound" ["self", "a", "b"] 1 (sp_bound C)) (ccopy : CalM P w K mg base C "copy" ["self"] 4 (sp_copy C)) :
    FnOk P w K mg base CX0 6 f fd ["_law_script"] (sp_law K) := by
  refine F.ok sc_law (fun vs H Q E h => ?_) (fun cdv A outer s H vs Q E hr h => ?_)
  · obtain ⟨a, ns, rfl, _⟩ := h
    rfl
  · obtain ⟨sa, ns, rfl, ha, hn, q⟩ := h
    have noX : ∀ (l m : Addr) (y : Str), ¬ y = "_least" → ¬ y = "_literals" → (pf l m).lookup y = none := fun l m y => pf_no l m
    have d1 : ¬ (("any_values" : Str) = "_least") := by decide +kernel
    have d2 : ¬ (("any_values" : Str) = "_literals") := by decide +kernel
    have d3 : ¬ (("add" : Str) = "_least") := by decide +kernel
    have d4 : ¬ (("add" : Str) = "_literals") := by decide +kernel
    have d5 : ¬ (("copy" : Str) = "_least") := by decide +kernel
    have d6 : ¬ (("copy" : Str) = "_literals") := by decide +kernel
    have d7 : ¬ (("bound" : Str) = "_least") := by decide +kernel
    have d8 : ¬ (("bound" : Str) = "_literals") := by decide +kernel
    refine ⟨_, (pss_cons (ps_set (i := 1) sc_law.nd rfl (Or.inr rfl) (pe_call c_law_numbers.ok (hr.mono (by decide)) (by rfl) c_law_numbers.mg c_law_numbers.kp c_law_numbers.b .nil pass0 (pa_cons (pv 0) (pa_cons pe_int pa_nil))))
      (pss_cons (ps_set (i := 2) sc_law.nd rfl (Or.inl rfl) (pe_op op_add pe_int (pe_op op_mod (pe_ix (ixL (K := K)) (pv 1) pe_int (fun _ _ => rfl)) pe_int)))
      (pss_cons (ps_if (pt_not (pt_val (pe_call c_law_either.ok (hr.mono (by decide)) (by rfl) c_law_either.mg c_law_either.kp c_law_either.b .nil pass0 (pa_cons (pv 2) (pa_cons (pe_call c_law_literals.ok (hr.mono (by decide)) (by rfl) c_law_literals.mg c_law_literals.kp c_law_literals.b .nil pass0 (pa_cons (pv 1) (pa_cons pe_int (pa_cons (pv 2) (pa_cons (pe_op op_mod (pe_ix (ixL (K := K)) (pv 1) pe_int (fun _ _ => rfl)) pe_int) (pa_cons (pe_ix (ixL (K := K)) (pe_lst (pa_cons pe_int (pa_cons pe_int (pa_cons pe_int pa_nil)))) (pe_op op_mod (pe_ix (ixL (K := K)) (pv 1) pe_int (fun _ _ => rfl)) pe_int) (fun _ _ => rfl)) pa_nil)))))) pa_nil)))))
      (pss_one (ps_ret pe_bl))
      pss_nil)
      (pss_cons (ps_if (pt_not (pt_val (pe_call c_law_long.ok (hr.mono (by decide)) (by rfl) c_law_long.mg c_law_long.kp c_law_long.b .nil pass0 (pa_cons (pv 1) pa_nil))))
      (pss_one (ps_ret pe_bl))
      pss_nil)
      (pss_cons (ps_set (i := 3) sc_law.nd rfl (Or.inr rfl) (pe_ix (ixL (K := K)) (pe_lst (pa_cons pe_int (pa_cons pe_int (pa_cons (pe_op op_pow pe_int pe_int) pa_nil)))) (pe_op op_mod (pe_ix (ixL (K := K)) (pv 1) pe_int (fun _ _ => rfl)) pe_int) (fun _ _ => rfl)))
      (pss_cons (ps_set (i := 4) sc_law.nd rfl (Or.inl rfl) (pe_callTy call_tuple_of (by rfl) T.tuple (by decide +kernel) (pa_cons (pe_lc (own := [("_law_k", 5)]) rfl sc_law.nd (pi_range1 rfl T.range (pa_cons (pv 2) pa_nil)) (blkOk_by (own := [("_law_k", 5)]) (N := ["_law_script", "_law_numbers_here", "_law_n", "_law_great", "_law_values", "_law_k", "_law_literals_here", "_law_a", "_law_b", "_law_c", "_law_bounds", "_law_turned", "_law_table_here", "_law_told", "_law_just", "_law_other"]) (sc := defScope s_law) (by decide +kernel)) (fun _ _ _ _ _ => (pg_name (i := 5) sc_law.nd rfl (Or.inl rfl) (.inr rfl))) (fun _ _ _ _ _ => pts_nil) (fun _ _ _ _ _ => (pe_op op_mul (pe_op op_mul (pe_callTy call_int1 (by rfl) T.int (by decide +kernel) (pa_cons (pe_cmpR op_gt (pv 5) pe_int (nomark _)) pa_nil)) (pe_op op_sub (pe_op op_mod (pe_ix (ixL (K := K)) (pv 1) (pe_callTy call_int1 (by rfl) T.int (by decide +kernel) (pa_cons (pe_op op_add pe_int (pv 5)) pa_nil)) (fun _ _ => rfl)) pe_int) pe_int)) (pv 3)))) pa_nil)))
      (pss_cons (ps_set (i := 6) sc_law.nd rfl (Or.inl rfl) (pe_lst pa_nil))
      (pss_cons (ps_for PassesOwn.never rfl (pi_list (pe_call c_law_literals.ok (hr.mono (by decide)) (by rfl) c_law_literals.mg c_law_literals.kp c_law_literals.b .nil pass0 (pa_cons (pv 1) (pa_cons pe_int (pa_cons (pv 2) (pa_cons (pe_op op_mod (pe_ix (ixL (K := K)) (pv 1) pe_int (fun _ _ => rfl)) pe_int) (pa_cons pe_int pa_nil))))))) (pg_tup rfl (pgs_cons (pg_name (i := 7) sc_law.nd rfl (Or.inl rfl)) (pgs_cons (pg_name (i := 8) sc_law.nd rfl (Or.inl rfl)) (pgs_cons (pg_name (i := 9) sc_law.nd rfl (Or.inl rfl)) pgs_nil))))
      (pss_one (ps_expr (pe_bm PySem.F.plainAttrs_list PySem.F.slot_list_append PySem.F.type_list_append mt_append (pv 6) (pa_cons (pe_tup (pa_cons (pv 7) (pa_cons (pv 8) (pa_cons (pe_op op_add (pe_op op_sub (pe_ix (ixT (K := K)) (pv 4) (pv 7) (fun _ _ => rfl)) (pe_ix (ixT (K := K)) (pv 4) (pv 8) (fun _ _ => rfl))) (pe_callB call_abs (by rfl) T.abs (by decide +kernel) (pa_cons (pv 9) pa_nil))) pa_nil)))) pa_nil)))))
      (pss_cons (ps_set (i := 10) sc_law.nd rfl (Or.inl rfl) (pe_call c_law_taken.ok (hr.mono (by decide)) (by rfl) c_law_taken.mg c_law_taken.kp c_law_taken.b .nil pass0 (pa_cons (pv 2) (pa_cons (pv 6) pa_nil))))
      (pss_cons (ps_set (i := 11) sc_law.nd rfl (Or.inl rfl) (pe_call c_law_taken.ok (hr.mono (by decide)) (by rfl) c_law_taken.mg c_law_taken.kp c_law_taken.b .nil pass0 (pa_cons (pv 2) (pa_cons (pe_revL (pv 6)) pa_nil))))
      (pss_cons (ps_if (PW.pt (pw_or (pt_cmpR op_isN (pv 10) pe_non (nomark _)) (pw_or (pt_cmpR op_isN (pv 11) pe_non (nomark _)) (pw_or1 (pt_cmpR op_notN (pe_call cfind_ring.ok (hr.mono (by decide)) (by rfl) cfind_ring.mg cfind_ring.kp cfind_ring.b .nil pass0 (pa_cons (pv 2) (pa_cons (pv 6) pa_nil))) pe_non (nomark _))))))
      (pss_one (ps_ret pe_bl))
      pss_nil)
      (pss_cons (ps_set (i := 12) sc_law.nd rfl (Or.inl rfl) (pe_call c_law_table.ok (hr.mono (by decide)) (by rfl) c_law_table.mg c_law_table.kp c_law_table.b .nil pass0 (pa_cons (pv 10) pa_nil)))
      (pss_cons (ps_if (PW.pt (pw_or (pt_cmpR (op_neD hr.units) (pv 12) (pe_call c_law_table.ok (hr.mono (by decide)) (by rfl) c_law_table.mg c_law_table.kp c_law_table.b .nil pass0 (pa_cons (pv 11) pa_nil)) (nomark _)) (pw_or (pt_not (pt_val (pe_call c_law_within.ok (hr.mono (by decide)) (by rfl) c_law_within.mg c_law_within.kp c_law_within.b .nil pass0 (pa_cons (pv 4) (pa_cons (pv 12) pa_nil))))) (pw_or1 (pt_not (pt_val (pe_call c_law_within.ok (hr.mono (by decide)) (by rfl) c_law_within.mg c_law_within.kp c_law_within.b .nil pass0 (pa_cons (pe_meth0 (pv 10) T.cl cany_values.me cany_values.ok (hr.mono (by decide)) cany_values.b .nil pass0) (pa_cons (pv 12) pa_nil)))))))))
      (pss_one (ps_ret pe_bl))
      pss_nil)
      (pss_cons (ps_set (i := 7) sc_law.nd rfl (Or.inl rfl) (pe_op op_mod (pe_ix (ixL (K := K)) (pv 1) pe_int (fun _ _ => rfl)) (pv 2)))
      (pss_cons (ps_set (i := 8) sc_law.nd rfl (Or.inl rfl) (pe_op op_mod (pe_ix (ixL (K := K)) (pv 1) pe_int (fun _ _ => rfl)) (pv 2)))
      (pss_cons (ps_if (pt_cmpR op_isN (pe_ix (ixL (K := K)) (pe_ix (ixL (K := K)) (pv 12) (pv 8) (fun _ _ => rfl)) (pv 7) (fun _ _ => rfl)) pe_non (nomark _))
      (pss_cons (ps_if (pt_cmpR op_notBl (pe_meth (pv 10) T.cl cadd.me cadd.ok (hr.mono (by decide)) cadd.b .nil pass0 (pa_cons (pv 7) (pa_cons (pv 8) (pa_cons (pe_op op_sub pe_int (pe_op op_pow pe_int pe_int)) pa_nil)))) pe_bl (nomark _))
        (pss_one (ps_ret pe_bl))
        pss_nil)
        (pss_cons (ps_set (i := 13) sc_law.nd rfl (Or.inl rfl) (pe_meth0 (pv 10) T.cl cany_values.me cany_values.ok (hr.mono (by decide)) cany_values.b .nil pass0))
        (pss_one (ps_ret (pe_and (pe_cmpR op_ge (pe_op op_sub (pe_ix (ixT (K := K)) (pv 13) (pv 8) (fun _ _ => rfl)) (pe_ix (ixT (K := K)) (pv 13) (pv 7) (fun _ _ => rfl))) (pe_op op_pow pe_int pe_int) (nomark _)) (pe_one (pe_call csatisfies.ok (hr.mono (by decide)) (by rfl) csatisfies.mg csatisfies.kp csatisfies.b .nil pass0 (pa_cons (pv 13) (pa_cons (pv 6) pa_nil)))))))))
      pss_nil)
      (pss_cons (ps_set (i := 14) sc_law.nd rfl (Or.inl rfl) (pe_op op_sub pe_int (pe_ix (ixL (K := K)) (pe_ix (ixL (K := K)) (pv 12) (pv 8) (fun _ _ => rfl)) (pv 7) (fun _ _ => rfl))))
      (pss_cons (ps_set (i := 15) sc_law.nd rfl (Or.inl rfl) (pe_meth0 (pv 10) T.cl ccopy.me ccopy.ok (hr.mono (by decide)) ccopy.b .nil pass0))
      (pss_cons (ps_if (PW.pt (pw_or (pt_cmpR op_notBl (pe_meth (pv 15) T.cl cadd.me cadd.ok (hr.mono (by decide)) cadd.b .nil pass0 (pa_cons (pv 7) (pa_cons (pv 8) (pa_cons (pe_op op_sub (pe_op op_sub (pv 14) pe_int) (pe_op op_mod (pe_ix (ixL (K := K)) (pv 1) pe_int (fun _ _ => rfl)) pe_int)) pa_nil)))) pe_bl (nomark _)) (pw_or1 (pt_cmpR (op_neD hr.units) (pe_call c_law_table.ok (hr.mono (by decide)) (by rfl) c_law_table.mg c_law_table.kp c_law_table.b .nil pass0 (pa_cons (pv 15) pa_nil)) (pv 12) (nomark _)))))
      (pss_one (ps_ret pe_bl))
      pss_nil)
      (pss_one (ps_ret (pe_and (pe_cmpR op_isBl (pe_meth (pv 15) T.cl cadd.me cadd.ok (hr.mono (by decide)) cadd.b .nil pass0 (pa_cons (pv 7) (pa_cons (pv 8) (pa_cons (pv 14) pa_nil)))) pe_bl (nomark _)) (pe_and (pe_cmpR op_eq (pe_meth (pv 15) T.cl cbound.me cbound.ok (hr.mono (by decide)) cbound.b .nil pass0 (pa_cons (pv 7) (pa_cons (pv 8) pa_nil))) (pv 14) (nomark _)) (pe_one (pe_cmpR op_notN (pe_call cfind_ring.ok (hr.mono (by decide)) (by rfl) cfind_ring.mg cfind_ring.kp cfind_ring.b .nil pass0 (pa_cons (pv 2) (pa_cons (pe_op op_cat (pv 6) (pe_lst (pa_cons (pe_tup (pa_cons (pv 7) (pa_cons (pv 8) (pa_cons (pe_op op_sub (pv 14) pe_int) pa_nil)))) pa_nil))) pa_nil))) pe_non (nomark _)))))))))))))))))))))))))), ?_⟩
    -- the numbers
    refine ⟨_, rfl, sa, ns, rfl, ha, hn, fun H1 l xs s1 hl0 h70 => ?_⟩
    have hl1 : SqL K H1 l (xs.map V.int) := SqL.of hl0
    have gn : ∃ n : Nat, 1 + xs.getD 0 0 % 9 = (n : Int) ∧ 1 ≤ n ∧ n ≤ 9 := ⟨(1 + xs.getD 0 0 % 9).toNat, by omega, by omega, by omega⟩
    obtain ⟨n, en, hn1, hn9⟩ := gn
    refine ⟨_, rfl, l, _, 0, _, rfl, rfl, hl1, iL_getD' (j := 0) rfl (by omega), _, _, rfl, rfl, (by show (0 : Int) < 9; decide), _, _, rfl, rfl, ?_⟩
    dsimp only
    rw [en]
    -- either values or a ring
    obtain ⟨sz, hsz, hsz3⟩ := at3 (a := 4) (b := 9) (c := 30) (z := xs.getD 2 0)
    refine ⟨_, rfl, _, rfl, _, rfl, _, rfl, l, _, 1, _, rfl, rfl, hl1, iL_getD' (j := 1) rfl (by omega), _, _, rfl, rfl, (by show (0 : Int) < 17; decide), by show 3 ≤ sizeLine; decide, fun u hu => ?_⟩
    have su := Same.upd (o := .lst [V.int 4, V.int 9, V.int 30]) hu
    refine ⟨_, rfl, l, _, 2, _, rfl, rfl, su.seq hl1, iL_getD' (j := 2) rfl (by omega), _, _, rfl, rfl, (by show (0 : Int) < 3; decide), u, _, _, _, rfl, rfl, SqL.of upd_same, hsz, ?_⟩
    refine ⟨l, xs, 10, n, _, sz, rfl, su.seq hl1, h70, hn1, by omega, by omega, by omega, fun H2 r lvs0 L0 _ s2 hr2 hL0 hp0 hlen0 => ?_⟩
    refine ⟨n, r, lvs0, L0, rfl, hn1, by omega, SqL.of hr2, hL0, hp0, hlen0, fun H3 s3 => ⟨_, rfl, iteF ?_⟩⟩
    have hl3 := s3.seq (s2.seq (su.seq hl1))
    -- the long way round
    refine ⟨_, rfl, l, xs, rfl, hl3, h70, fun H4 s4 => ⟨_, rfl, iteF ?_⟩⟩
    have hl4 := s4.seq hl3
    -- the values
    obtain ⟨gr, hgr, _⟩ := at3 (a := 1) (b := 1) (c := 10 ^ (22 : Int).toNat) (z := xs.getD 3 0)
    refine ⟨_, _, rfl, rfl, ⟨by decide, by decide, by decide⟩, by show 3 ≤ sizeLine; decide, fun u2 hu2 => ?_⟩
    have su2 := Same.upd (o := .lst [V.int 1, V.int 1, V.int (10 ^ (22 : Int).toNat)]) hu2
    have hl5 := su2.seq hl4
    refine ⟨_, rfl, l, _, 3, _, rfl, rfl, hl5, iL_getD' (j := 3) rfl (by omega), _, _, rfl, rfl, (by show (0 : Int) < 3; decide), u2, _, _, _, rfl, rfl, SqL.of upd_same, hgr, ?_⟩
    have hl5' : SqL K (upd H4 u2 (.lst [V.int 1, V.int 1, V.int (10 ^ (22 : Int).toNat)])) l (xs.map V.int) := hl5
    generalize upd H4 u2 (.lst [V.int 1, V.int 1, V.int (10 ^ (22 : Int).toNat)]) = H5 at hl5' ⊢
    refine ⟨_, rfl, (n : Int), rfl, by omega, by omega, fun D hD => lc_range (lo := 0) (n := (n : Int).toNat) (PvT H5 D fun k => .int ((if decide ((0 : Int) < 0 + (k : Int)) then (1 : Int) else 0) * (xs.getD (30 + k) 0 % 61 - 30) * gr)) (PvT.start hD) ?_ ?_⟩
    · rintro i H' hi h
      refine ⟨rfl, _, rfl, _, _, rfl, rfl, .inr ⟨_, rfl, _, rfl, _, rfl, _, _, rfl, rfl, .inl ⟨_, rfl, l, _, _, _, rfl, rfl, h.1.seq hl5', iL_getD' (j := 30 + i) (by omega) (by omega), _, _, rfl, rfl, (by show (0 : Int) < 61; decide), _, _, rfl, rfl, _, _, rfl, rfl, .inl ?_, _, rfl, _, _, rfl, rfl, .inl (prod_small _ _), ?_⟩⟩⟩
      · split <;> decide
      · exact h.next hD (by omega) (Same.refl _) rfl
    · rintro H6 h6
      refine ⟨D, _, rfl, .inl ⟨SqL.of h6.2, fun t ht => ?_⟩⟩
      have st := Same.upd (o := .tup (tab (n : Int).toNat fun k => V.int ((if decide ((0 : Int) < 0 + (k : Int)) then (1 : Int) else 0) * (xs.getD (30 + k) 0 % 61 - 30) * gr))) ht
      have hl7 := st.seq (h6.1.seq hl5')
      obtain ⟨x, hv7⟩ : ∃ x : Nat → Int, (upd H6 t (.tup (tab (n : Int).toNat fun k => V.int ((if decide ((0 : Int) < 0 + (k : Int)) then (1 : Int) else 0) * (xs.getD (30 + k) 0 % 61 - 30) * gr)))) t = some (.tup (iT n x)) :=
        ⟨fun k => (if decide ((0 : Int) < 0 + (k : Int)) then (1 : Int) else 0) * (xs.getD (30 + k) 0 % 61 - 30) * gr, by rw [upd_same, show (n : Int).toNat = n from by omega]⟩
      generalize upd H6 t (.tup (tab (n : Int).toNat fun k => V.int ((if decide ((0 : Int) < 0 + (k : Int)) then (1 : Int) else 0) * (xs.getD (30 + k) 0 % 61 - 30) * gr))) = H7 at hl7 hv7 ⊢
      -- the literals that they satisfy
      refine ⟨Nat.zero_le _, fun D6 hD6 => ?_⟩
      have s8 := Same.upd (o := .lst []) hD6
      have e8 : LawE K (upd H7 D6 (.lst [])) l xs t n x D6 [] [] := ⟨s8.seq hl7, s8 _ _ hv7, upd_same, .nil⟩
      refine ⟨_, rfl, _, rfl, _, rfl, l, _, 4, _, rfl, rfl, e8.num, iL_getD' (j := 4) rfl (by omega), _, _, rfl, rfl, (by show (0 : Int) < 17; decide), ?_⟩
      refine ⟨l, xs, 40, n, _, 7, rfl, e8.num, h70, hn1, by omega, by omega, by decide, fun H9 r lvs1 L1 hr8 s9 hr9 hL1 hp1 hlen1 => ?_⟩
      have e9 := e8.on s9
      have s79 := s8.trans s9
      have hrD : r ≠ D6 := (ne_of_none e8.lst hr8).symm
      refine ⟨r, rfl, ⟨_, SqL.of hr9⟩, for_list (K := K) (a := r) (xs := lvs1) (fun i σ H' => ∃ (y7 y8 y9 : Option V) (lvs : List V) (L : List Lit), σ = [some (.ref sa), some (.ref l), some (.int n), some (.int gr), some (.ref t), none, some (.ref D6), y7, y8, y9, none, none, none, none, none, none] ∧
        Same H7 H' ∧ H' D6 = some (.lst lvs) ∧ Lits K H' lvs L ∧ H' r = some (.lst lvs1) ∧ Lits K H' lvs1 L1 ∧ Pts n L ∧ L.length = i ∧ Sat x L) ⟨_, _, _, [], [], rfl, s79, e9.lst, .nil, hr9, hL1, (fun e he => by simp at he), rfl, fun e he => by simp at he⟩ (fun i σ H' _ h => ?_) ?_ ?_⟩
      · obtain ⟨_, _, _, _, _, _, _, _, _, h, _⟩ := h
        exact SqL.of h
      · rintro i v σ H' hi ⟨y7, y8, y9, lvs, L, rfl, sm, hDl, hL, hrl, hL1', hp, hlen, hsat⟩
        obtain ⟨te, e, rfl, he, hte⟩ := hL1'.at_ i v hi
        obtain ⟨ha, hb⟩ := hp1 e (List.mem_of_getElem? he)
        have hi100 : i < L1.length := (List.getElem?_eq_some_iff.mp he).1
        have hval := SqT.of (K := K) (sm _ _ hv7)
        refine ⟨te, litV e, rfl, hte, rfl, _, _, rfl, _, _, rfl, _, _, rfl, rfl, ?_⟩
        refine ⟨_, rfl, .inl ⟨rfl, _, SqL.of hDl⟩, _, rfl, _, rfl, _, rfl, _, rfl, t, _, _, _, rfl, rfl, hval, tab_at ha, _, rfl, _, rfl, t, _, _, _, rfl, rfl, hval, tab_at hb, _, _, rfl, rfl, _, rfl, _, rfl, _, _, rfl, rfl, by show 3 ≤ sizeLine; decide, fun z hz => ?_⟩
        have sz' := Same.upd (o := .tup [V.int (e.a : Int), V.int (e.b : Int), V.int (x e.a - x e.b + if e.c < 0 then -e.c else e.c)]) hz
        refine ⟨D6, lvs, _, rfl, rfl, sz' _ _ hDl, small (by rw [hL.len]; omega), ?_⟩
        refine ⟨_, _, _, _, L ++ [⟨e.a, e.b, x e.a - x e.b + if e.c < 0 then -e.c else e.c⟩], rfl, (sm.trans sz').poke hD6, upd_same, ?_, ?_, ?_, fun e' he' => ?_, by simp [hlen], fun e' he' => ?_⟩
        · exact Lits.snoc ((hL.same sz').poke (sz' _ _ hDl)) (tup_poke (SqT.of upd_same) (sz' _ _ hDl))
        · rw [upd_ne hrD]
          exact sz' _ _ hrl
        · exact (hL1'.same sz').poke (sz' _ _ hDl)
        · rcases List.mem_append.mp he' with he' | he'
          · exact hp e' he'
          · rw [List.mem_singleton] at he'
            subst he'
            exact ⟨ha, hb⟩
        · rcases List.mem_append.mp he' with he' | he'
          · exact hsat e' he'
          · rw [List.mem_singleton] at he'
            subst he'
            show x e.a - x e.b ≤ x e.a - x e.b + if e.c < 0 then -e.c else e.c
            split <;> omega
      · rintro σ H10 ⟨y7, y8, y9, lvs, L, rfl, s10, hDl, hL, _, _, hp, hlen, hsat⟩
        have e10 : LawE K H10 l xs t n x D6 lvs L := ⟨s10.seq hl7, s10 _ _ hv7, hDl, hL⟩
        have hlen' : L.length ≤ 100 := by
          have := hL1.len
          omega
        have hf : Feas L := ⟨x, hsat⟩
        -- taken, and taken in the other order
        refine ⟨_, rfl, _, rfl, n, D6, lvs, L, rfl, hn1, by omega, SqL.of hDl, hL, hp, by omega, fun z => absurd hf z, fun _ H11 p M B11 hM => ?_⟩
        have e11 := e10.on B11.same
        refine ⟨_, rfl, _, rfl, D6, lvs, rfl, SqL.of e11.lst, fun rv hrv => ?_⟩
        have sv := Same.upd (o := .lst lvs.reverse) hrv
        have hf' : Feas L.reverse := ⟨x, fun e he => hsat e (List.mem_reverse.mp he)⟩
        refine ⟨n, rv, lvs.reverse, L.reverse, rfl, hn1, by omega, SqL.of upd_same, (e11.on sv).lits.rev, fun e he => hp e (List.mem_reverse.mp he), by rw [List.length_reverse]; omega, fun z => absurd hf' z, fun _ H12 p2 M2 B12 hM2 => ?_⟩
        have s1112 := sv.trans B12.same
        have B1 := B11.on s1112
        have e12 := e11.on s1112
        have hMM : ∀ a b, M2 a b = M a b := fun a b => hM2.same hM (fun e => List.mem_reverse) a b
        -- none is None
        refine ⟨_, rfl, rfl, _, rfl, iteF ⟨_, rfl, rfl, _, rfl, iteF ⟨_, rfl, _, rfl, n, D6, lvs, L, rfl, hn1, by omega, SqL.of e12.lst, e12.lits, hp, fun _ H13 s13 => ⟨rfl, _, rfl, iteF ?_⟩, fun _ _ _ _ _ _ _ hF _ => absurd hf hF.bad'⟩⟩⟩
        have B13 := B1.on s13
        have e13 := e12.on s13
        -- the tables
        refine ⟨_, rfl, H10, p, n, M, _, rfl, B13, by omega, fun H14 tt s14 hT14 => ?_⟩
        have B14 := B13.on s14
        have e14 := e13.on s14
        have C14 := (B12.on s13).on s14
        refine ⟨_, rfl, _, rfl, _, p2, n, M2, _, rfl, C14, by omega, fun H15 t2 s15 hT15 => ?_⟩
        have hT := hT14.same s15
        have B15 := B14.on s15
        have e15 := e14.on s15
        refine ⟨tabD n M, tabD n M2, hT.dp, hT15.dp, tab_shaped n M, tab_shaped n M2, _, rfl, ?_⟩
        rw [tab_eqv fun a b _ _ => (hMM a b).symm]
        refine iteF ⟨_, rfl, _, rfl, t, tt, n, x, M, rfl, SqT.of e15.val, hT, by omega, fun a b m _ _ e => hM.within hsat e, ⟨_, rfl, iteF ?_⟩⟩
        obtain ⟨dx, l1, m1, rows, lits, b15⟩ := id B15
        refine ⟨_, rfl, p, dx, _, rfl, b15.hp, noX _ _ _ d1 d2, H10, p, n, M, L, _, rfl, B15, hM, hn1, by omega, fun H16 t3 x3 s16 ht3 hx30 hx3 => ?_⟩
        have hT16 := hT.same s16
        have B16 := B15.on s16
        have b16 := b15.on s16
        have e16 := e15.on s16
        refine ⟨_, rfl, t3, tt, n, x3, M, rfl, SqT.of ht3, hT16, by omega, hx3, ⟨_, rfl, iteF ?_⟩⟩
        -- two points
        obtain ⟨a, ea, han⟩ := nat_of_mod (v := xs.getD 60 0) hn1
        obtain ⟨b, eb, hbn⟩ := nat_of_mod (v := xs.getD 61 0) hn1
        refine ⟨_, rfl, l, _, 60, _, rfl, rfl, e16.num, iL_getD' (j := 60) rfl (by omega), _, rfl, _, _, rfl, rfl, (by show (0 : Int) < (n : Int); omega), ?_⟩
        dsimp only
        rw [ea]
        refine ⟨_, rfl, l, _, 61, _, rfl, rfl, e16.num, iL_getD' (j := 61) rfl (by omega), _, rfl, _, _, rfl, rfl, (by show (0 : Int) < (n : Int); omega), ?_⟩
        dsimp only
        rw [eb]
        obtain ⟨ts, r1, ys, k1, k2, k3, k4⟩ := hT16.look hbn han
        refine ⟨_, rfl, _, rfl, tt, _, _, _, rfl, rfl, SqL.of k1, k2, _, rfl, r1, _, _, _, rfl, rfl, SqL.of k3, k4, rfl, _, rfl, ?_⟩
        have hk500 : L.length ≤ 500 := by omega
        have hp' : ∀ c : Int, Pts n (L ++ [⟨a, b, c⟩]) := fun c e he => by
          rcases List.mem_append.mp he with he | he
          · exact hp e he
          · rw [List.mem_singleton] at he
            subst he
            exact ⟨han, hbn⟩
        cases hba : M b a with
        | none =>
          refine iteT ?_
          refine ⟨_, rfl, p, dx, _, rfl, b16.hp, noX _ _ _ d3 d4, _, rfl, _, rfl, _, _, rfl, rfl, ⟨by decide, by decide, by decide⟩, _, _, rfl, rfl, H10, p, n, M, L, _, a, b, _, rfl, B16, hM, hk500, han, hbn, by omega, fun m hm _ => ?_, fun _ H17 M' B17 hM' => ?_⟩
          · rw [hba] at hm
            cases hm
          refine ⟨true, true, rfl, rfl, _, rfl, iteF ?_⟩
          have e17 := e10.on B17.same
          obtain ⟨dx', l1', m1', rows', lits', b17⟩ := id B17
          refine ⟨_, rfl, p, dx', _, rfl, b17.hp, noX _ _ _ d1 d2, H10, p, n, M', _, _, rfl, B17, hM', hn1, by omega, fun H18 t4 x4 s18 ht4 _ hx4 => ?_⟩
          have e18 := e17.on s18
          have hs4 := hM'.sat (hp' _) hx4
          have h40 : x4 a - x4 b ≤ 0 - 10 ^ (40 : Int).toNat := hs4 ⟨a, b, _⟩ (List.mem_append_right _ (List.mem_singleton.mpr rfl))
          refine ⟨_, rfl, _, rfl, t4, _, _, _, rfl, rfl, SqT.of ht4, tab_at hbn, _, rfl, _, rfl, t4, _, _, _, rfl, rfl, SqT.of ht4, tab_at han, _, _, rfl, rfl, _, _, rfl, rfl, ⟨by decide, by decide, by decide⟩, _, _, rfl, rfl, _, rfl, ?_⟩
          rw [decide_eq_true (show (10 : Int) ^ (40 : Int).toNat ≤ x4 b - x4 a by generalize (10 : Int) ^ (40 : Int).toNat = z at h40 ⊢; omega)]
          refine iteT ⟨_, rfl, _, rfl, t4, D6, n, x4, lvs, L, rfl, SqT.of ht4, SqL.of e18.lst, e18.lits, hp, hk500, fun e he => hs4 e (List.mem_append_left _ he), fun H19 _ => q _⟩
        | some m =>
          refine iteF ?_
          rw [hba] at k4
          refine ⟨_, rfl, _, rfl, tt, _, _, _, rfl, rfl, SqL.of k1, k2, _, rfl, r1, _, _, .int m, rfl, rfl, SqL.of k3, k4, _, _, rfl, rfl, ?_⟩
          refine ⟨_, rfl, p, dx, _, rfl, b16.hp, noX _ _ _ d5 d6, H10, p, n, M, _, rfl, B16, hn1, by omega, fun H17 po B17 => ?_⟩
          have s17 := B17.same
          have e17 := e16.on s17
          have hT17 := hT16.same s17
          obtain ⟨dx', l1', m1', rows', lits', b17⟩ := id B17
          refine ⟨_, rfl, po, dx', _, rfl, b17.hp, noX _ _ _ d3 d4, _, rfl, _, rfl, _, rfl, _, _, rfl, rfl, _, rfl, l, _, 62, _, rfl, rfl, e17.num, iL_getD' (j := 62) rfl (by omega), _, _, rfl, rfl, (by show (0 : Int) < 5; decide), _, _, rfl, rfl, H16, po, n, M, L, _, a, b, _, rfl, B17, hM, hk500, han, hbn, by omega, fun m' hm' hlt => ?_, fun hnn => ?_⟩
          · refine ⟨false, false, rfl, rfl, _, rfl, iteF ?_⟩
            refine ⟨_, rfl, _, po, n, M, _, rfl, B17, by omega, fun H18 t5 s18 hT18 => ?_⟩
            have hT18' := hT17.same s18
            refine ⟨_, rfl, tabD n M, tabD n M, hT18.dp, hT18'.dp, tab_shaped n M, tab_shaped n M, _, rfl, ?_⟩
            rw [tab_eqv fun _ _ _ _ => rfl]
            refine iteF ?_
            have b18 := b17.on s18
            have B18 := B17.on s18
            refine ⟨_, rfl, po, dx', _, rfl, b18.hp, noX _ _ _ d3 d4, _, rfl, _, rfl, _, rfl, H16, po, n, M, L, _, a, b, _, rfl, B18, hM, hk500, han, hbn, by omega, fun m' hm' hlt => ?_, fun hnn H19 M' B19 hM' => ?_⟩
            · rw [hba] at hm'
              cases hm'
              omega
            · refine ⟨true, true, rfl, rfl, _, rfl, iteT ?_⟩
              have hjust : M' a b = some (0 - m) := by
                rw [show (0 : Int) - m = -m from by omega]
                refine hM.just hba ?_
                rw [show -m = (0 : Int) - m from by omega]
                exact hM'
              obtain ⟨dx3, l13, m13, rows3, lits3, b19⟩ := id B19
              have e19 := e16.on B19.same
              refine ⟨_, rfl, po, dx3, _, rfl, b19.hp, noX _ _ _ d7 d8, _, rfl, _, rfl, H16, po, n, M', _, a, b, rfl, B19, han, hbn, ?_⟩
              rw [hjust]
              refine ⟨_, rfl, rfl, _, rfl, ?_⟩
              rw [decide_eq_true (show optV (some (0 - m)) = V.int (0 - m) from rfl)]
              refine iteT ⟨_, rfl, _, rfl, _, rfl, _, rfl, _, rfl, _, _, rfl, rfl, by show 3 ≤ sizeLine; decide, fun z hz => ⟨by show 1 ≤ sizeLine; decide, fun z2 hz2 => ?_⟩⟩
              have sz1 := Same.upd (o := .tup [V.int (a : Int), V.int (b : Int), V.int (0 - m - 1)]) hz
              have sz2 := Same.upd (o := .lst [V.ref z]) hz2
              have e20 := (e19.on sz1).on sz2
              refine ⟨D6, z2, lvs, _, rfl, rfl, e20.lst, upd_same, small' (by rw [e20.lits.len]; simp; omega), fun r6 hr6 => ?_⟩
              have s21 := Same.upd (o := .lst (lvs ++ [V.ref z])) hr6
              refine ⟨n, r6, _, L ++ [⟨a, b, 0 - m - 1⟩], rfl, hn1, by omega, SqL.of upd_same, Lits.snoc (e20.lits.same s21) (s21.tup (sz2.tup (SqT.of upd_same))), hp' _, fun hfe => ?_, fun _ _ _ _ _ _ _ _ _ => ⟨rfl, q _⟩⟩
              exact absurd hfe (hM.refused hba (by omega) (fun e he => List.mem_append_left _ he) (List.mem_append_right _ (List.mem_singleton.mpr rfl)))
          · have := hnn m hba
            have := Int.emod_nonneg (xs.getD 62 0) (show (5 : Int) ≠ 0 by decide)
            omega
end
end K20

namespace K20
open PySem L2
/-! ### what the top has written -/
theorem all_mk {l : PySem.W.OpenLaw} {w : World} {K : PySem.W.Frag} {h : Heap} {mg : Str → Option Value} {tk : Tok} {fa C f1 f2 f3 f4 f5 f6 f7 f8 f9 f10 f11 f12 f13 f14 f15 f16 f17 f18 f19 f20 f21 f22 f23 f24 f25 f26 f27 f28 : Addr} (X : K.In h) (G : h.Ns mainGlobals mg) (hfa : mg "law" = some (.ref fa))
    {od1 an1 od2 an2 od3 an3 od4 an4 od5 an5 od6 an6 od7 an7 od8 an8 od9 an9 od10 an10 od11 an11 od12 an12 od13 an13 od14 an14 od15 an15 od16 an16 od17 an17 od18 an18 od19 an19 od20 an20 od21 an21 od22 an22 od23 an23 od24 an24 od25 an25 od26 an26 od27 an27 od28 an28 : Option Addr} {sl1 sl2 sl3 sl4 sl5 sl6 sl7 sl8 sl9 sl10 sl11 sl12 sl13 sl14 sl15 sl16 sl17 sl18 sl19 sl20 sl21 sl22 sl23 sl24 sl25 sl26 sl27 sl28 : Array (Option Value)}
    {oc1 kV1 dc1 pm1 cd1 ct1 oc2 kV2 dc2 pm2 cd2 ct2 oc3 kV3 dc3 pm3 cd3 ct3 oc4 kV4 dc4 pm4 cd4 ct4 oc5 kV5 dc5 pm5 cd5 ct5 oc6 kV6 dc6 pm6 cd6 ct6 oc7 kV7 dc7 pm7 cd7 ct7 oc8 kV8 dc8 pm8 cd8 ct8 oc9 kV9 dc9 pm9 cd9 ct9 oc10 kV10 dc10 pm10 cd10 ct10 oc11 kV11 dc11 pm11 cd11 ct11 oc12 kV12 dc12 pm12 cd12 ct12 oc13 kV13 dc13 pm13 cd13 ct13 oc14 kV14 dc14 pm14 cd14 ct14 oc15 kV15 dc15 pm15 cd15 ct15 oc16 kV16 dc16 pm16 cd16 ct16 oc17 kV17 dc17 pm17 cd17 ct17 oc18 kV18 dc18 pm18 cd18 ct18 oc19 kV19 dc19 pm19 cd19 ct19 oc20 kV20 dc20 pm20 cd20 ct20 oc21 kV21 dc21 pm21 cd21 ct21 oc22 kV22 dc22 pm22 cd22 ct22 oc23 kV23 dc23 pm23 cd23 ct23 oc24 kV24 dc24 pm24 cd24 ct24 oc25 kV25 dc25 pm25 cd25 ct25 oc26 kV26 dc26 pm26 cd26 ct26 oc27 kV27 dc27 pm27 cd27 ct27 oc28 kV28 dc28 pm28 cd28 ct28 : Value}
    (aC : PySem.W.nsIn K mainGlobals "Bounds" = some (some (.ref C)))
    (aX : PySem.W.nsIn K mainGlobals "MAX_POINTS" = some (some (.int 80 tk)))
    (a1 : PySem.W.nsIn K mainGlobals "check_points" = some (some (.ref f1)))
    (l1 : K.lookup f1 = some ⟨oc1, od1, .func (PySem.W.fnOf "check_points" "check_points" (defArgs s_check_points) (defBody s_check_points) (defScope s_check_points) .none kV1 dc1 pm1 an1 cd1 ct1), sl1⟩)
    (c1 : PySem.W.codeIn K cd1 "check_points" = true)
    (k1 : PySem.W.keepIn K (.ref f1) = true)
    (a2 : PySem.W.nsIn K mainGlobals "check_point" = some (some (.ref f2)))
    (l2 : K.lookup f2 = some ⟨oc2, od2, .func (PySem.W.fnOf "check_point" "check_point" (defArgs s_check_point) (defBody s_check_point) (defScope s_check_point) .none kV2 dc2 pm2 an2 cd2 ct2), sl2⟩)
    (c2 : PySem.W.codeIn K cd2 "check_point" = true)
    (k2 : PySem.W.keepIn K (.ref f2) = true)
    (a3 : PySem.W.nsIn K mainGlobals "check_literals" = some (some (.ref f3)))
    (l3 : K.lookup f3 = some ⟨oc3, od3, .func (PySem.W.fnOf "check_literals" "check_literals" (defArgs s_check_literals) (defBody s_check_literals) (defScope s_check_literals) .none kV3 dc3 pm3 an3 cd3 ct3), sl3⟩)
    (c3 : PySem.W.codeIn K cd3 "check_literals" = true)
    (k3 : PySem.W.keepIn K (.ref f3) = true)
    (a4 : PySem.W.nsIn K mainGlobals "satisfies" = some (some (.ref f4)))
    (l4 : K.lookup f4 = some ⟨oc4, od4, .func (PySem.W.fnOf "satisfies" "satisfies" (defArgs s_satisfies) (defBody s_satisfies) (defScope s_satisfies) .none kV4 dc4 pm4 an4 cd4 ct4), sl4⟩)
    (c4 : PySem.W.codeIn K cd4 "satisfies" = true)
    (k4 : PySem.W.keepIn K (.ref f4) = true)
    (a5 : PySem.W.nsIn K mainGlobals "is_ring" = some (some (.ref f5)))
    (l5 : K.lookup f5 = some ⟨oc5, od5, .func (PySem.W.fnOf "is_ring" "is_ring" (defArgs s_is_ring) (defBody s_is_ring) (defScope s_is_ring) .none kV5 dc5 pm5 an5 cd5 ct5), sl5⟩)
    (c5 : PySem.W.codeIn K cd5 "is_ring" = true)
    (k5 : PySem.W.keepIn K (.ref f5) = true)
    (a6 : PySem.W.nsIn K mainGlobals "ring_at" = some (some (.ref f6)))
    (l6 : K.lookup f6 = some ⟨oc6, od6, .func (PySem.W.fnOf "ring_at" "ring_at" (defArgs s_ring_at) (defBody s_ring_at) (defScope s_ring_at) .none kV6 dc6 pm6 an6 cd6 ct6), sl6⟩)
    (c6 : PySem.W.codeIn K cd6 "ring_at" = true)
    (k6 : PySem.W.keepIn K (.ref f6) = true)
    (a7 : PySem.W.nsIn K mainGlobals "ring_from" = some (some (.ref f7)))
    (l7 : K.lookup f7 = some ⟨oc7, od7, .func (PySem.W.fnOf "ring_from" "ring_from" (defArgs s_ring_from) (defBody s_ring_from) (defScope s_ring_from) .none kV7 dc7 pm7 an7 cd7 ct7), sl7⟩)
    (c7 : PySem.W.codeIn K cd7 "ring_from" = true)
    (k7 : PySem.W.keepIn K (.ref f7) = true)
    (a8 : PySem.W.nsIn K mainGlobals "find_ring" = some (some (.ref f8)))
    (l8 : K.lookup f8 = some ⟨oc8, od8, .func (PySem.W.fnOf "find_ring" "find_ring" (defArgs s_find_ring) (defBody s_find_ring) (defScope s_find_ring) .none kV8 dc8 pm8 an8 cd8 ct8), sl8⟩)
    (c8 : PySem.W.codeIn K cd8 "find_ring" = true)
    (k8 : PySem.W.keepIn K (.ref f8) = true)
    (a9 : PySem.W.nsIn K mainGlobals "joined" = some (some (.ref f9)))
    (l9 : K.lookup f9 = some ⟨oc9, od9, .func (PySem.W.fnOf "joined" "joined" (defArgs s_joined) (defBody s_joined) (defScope s_joined) .none kV9 dc9 pm9 an9 cd9 ct9), sl9⟩)
    (c9 : PySem.W.codeIn K cd9 "joined" = true)
    (k9 : PySem.W.keepIn K (.ref f9) = true)
    (a10 : PySem.W.nsIn K mainGlobals "is_less" = some (some (.ref f10)))
    (l10 : K.lookup f10 = some ⟨oc10, od10, .func (PySem.W.fnOf "is_less" "is_less" (defArgs s_is_less) (defBody s_is_less) (defScope s_is_less) .none kV10 dc10 pm10 an10 cd10 ct10), sl10⟩)
    (c10 : PySem.W.codeIn K cd10 "is_less" = true)
    (k10 : PySem.W.keepIn K (.ref f10) = true)
    (a11 : PySem.W.nsIn K mainGlobals "moved" = some (some (.ref f11)))
    (l11 : K.lookup f11 = some ⟨oc11, od11, .func (PySem.W.fnOf "moved" "moved" (defArgs s_moved) (defBody s_moved) (defScope s_moved) .none kV11 dc11 pm11 an11 cd11 ct11), sl11⟩)
    (c11 : PySem.W.codeIn K cd11 "moved" = true)
    (k11 : PySem.W.keepIn K (.ref f11) = true)
    (a12 : PySem.W.findIn K (.ref C) "__init__" = some (some (.ref f12)))
    (i12 : PySem.W.isFn K (.ref f12) = true)
    (l12 : K.lookup f12 = some ⟨oc12, od12, .func (PySem.W.fnOf "__init__" "Bounds.__init__" (defArgs s_init) (defBody s_init) (defScope s_init) .none kV12 dc12 pm12 an12 cd12 ct12), sl12⟩)
    (c12 : PySem.W.codeIn K cd12 "Bounds.__init__" = true)
    (k12 : PySem.W.keepIn K (.ref f12) = true)
    (a13 : PySem.W.findIn K (.ref C) "size" = some (some (.ref f13)))
    (i13 : PySem.W.isFn K (.ref f13) = true)
    (l13 : K.lookup f13 = some ⟨oc13, od13, .func (PySem.W.fnOf "size" "Bounds.size" (defArgs s_size) (defBody s_size) (defScope s_size) .none kV13 dc13 pm13 an13 cd13 ct13), sl13⟩)
    (c13 : PySem.W.codeIn K cd13 "Bounds.size" = true)
    (k13 : PySem.W.keepIn K (.ref f13) = true)
    (a14 : PySem.W.findIn K (.ref C) "bound" = some (some (.ref f14)))
    (i14 : PySem.W.isFn K (.ref f14) = true)
    (l14 : K.lookup f14 = some ⟨oc14, od14, .func (PySem.W.fnOf "bound" "Bounds.bound" (defArgs s_bound) (defBody s_bound) (defScope s_bound) .none kV14 dc14 pm14 an14 cd14 ct14), sl14⟩)
    (c14 : PySem.W.codeIn K cd14 "Bounds.bound" = true)
    (k14 : PySem.W.keepIn K (.ref f14) = true)
    (a15 : PySem.W.findIn K (.ref C) "_shorten" = some (some (.ref f15)))
    (i15 : PySem.W.isFn K (.ref f15) = true)
    (l15 : K.lookup f15 = some ⟨oc15, od15, .func (PySem.W.fnOf "_shorten" "Bounds._shorten" (defArgs s_shorten) (defBody s_shorten) (defScope s_shorten) .none kV15 dc15 pm15 an15 cd15 ct15), sl15⟩)
    (c15 : PySem.W.codeIn K cd15 "Bounds._shorten" = true)
    (k15 : PySem.W.keepIn K (.ref f15) = true)
    (a16 : PySem.W.findIn K (.ref C) "add" = some (some (.ref f16)))
    (i16 : PySem.W.isFn K (.ref f16) = true)
    (l16 : K.lookup f16 = some ⟨oc16, od16, .func (PySem.W.fnOf "add" "Bounds.add" (defArgs s_add) (defBody s_add) (defScope s_add) .none kV16 dc16 pm16 an16 cd16 ct16), sl16⟩)
    (c16 : PySem.W.codeIn K cd16 "Bounds.add" = true)
    (k16 : PySem.W.keepIn K (.ref f16) = true)
    (a17 : PySem.W.findIn K (.ref C) "_low" = some (some (.ref f17)))
    (i17 : PySem.W.isFn K (.ref f17) = true)
    (l17 : K.lookup f17 = some ⟨oc17, od17, .func (PySem.W.fnOf "_low" "Bounds._low" (defArgs s_low) (defBody s_low) (defScope s_low) .none kV17 dc17 pm17 an17 cd17 ct17), sl17⟩)
    (c17 : PySem.W.codeIn K cd17 "Bounds._low" = true)
    (k17 : PySem.W.keepIn K (.ref f17) = true)
    (a18 : PySem.W.findIn K (.ref C) "any_values" = some (some (.ref f18)))
    (i18 : PySem.W.isFn K (.ref f18) = true)
    (l18 : K.lookup f18 = some ⟨oc18, od18, .func (PySem.W.fnOf "any_values" "Bounds.any_values" (defArgs s_any_values) (defBody s_any_values) (defScope s_any_values) .none kV18 dc18 pm18 an18 cd18 ct18), sl18⟩)
    (c18 : PySem.W.codeIn K cd18 "Bounds.any_values" = true)
    (k18 : PySem.W.keepIn K (.ref f18) = true)
    (a19 : PySem.W.findIn K (.ref C) "_take" = some (some (.ref f19)))
    (i19 : PySem.W.isFn K (.ref f19) = true)
    (l19 : K.lookup f19 = some ⟨oc19, od19, .func (PySem.W.fnOf "_take" "Bounds._take" (defArgs s_take) (defBody s_take) (defScope s_take) .none kV19 dc19 pm19 an19 cd19 ct19), sl19⟩)
    (c19 : PySem.W.codeIn K cd19 "Bounds._take" = true)
    (k19 : PySem.W.keepIn K (.ref f19) = true)
    (a20 : PySem.W.findIn K (.ref C) "copy" = some (some (.ref f20)))
    (i20 : PySem.W.isFn K (.ref f20) = true)
    (l20 : K.lookup f20 = some ⟨oc20, od20, .func (PySem.W.fnOf "copy" "Bounds.copy" (defArgs s_copy) (defBody s_copy) (defScope s_copy) .none kV20 dc20 pm20 an20 cd20 ct20), sl20⟩)
    (c20 : PySem.W.codeIn K cd20 "Bounds.copy" = true)
    (k20 : PySem.W.keepIn K (.ref f20) = true)
    (a21 : PySem.W.nsIn K mainGlobals "_law_numbers" = some (some (.ref f21)))
    (l21 : K.lookup f21 = some ⟨oc21, od21, .func (PySem.W.fnOf "_law_numbers" "_law_numbers" (defArgs s_law_numbers) (defBody s_law_numbers) (defScope s_law_numbers) .none kV21 dc21 pm21 an21 cd21 ct21), sl21⟩)
    (c21 : PySem.W.codeIn K cd21 "_law_numbers" = true)
    (k21 : PySem.W.keepIn K (.ref f21) = true)
    (a22 : PySem.W.nsIn K mainGlobals "_law_literals" = some (some (.ref f22)))
    (l22 : K.lookup f22 = some ⟨oc22, od22, .func (PySem.W.fnOf "_law_literals" "_law_literals" (defArgs s_law_literals) (defBody s_law_literals) (defScope s_law_literals) .none kV22 dc22 pm22 an22 cd22 ct22), sl22⟩)
    (c22 : PySem.W.codeIn K cd22 "_law_literals" = true)
    (k22 : PySem.W.keepIn K (.ref f22) = true)
    (a23 : PySem.W.nsIn K mainGlobals "_law_taken" = some (some (.ref f23)))
    (l23 : K.lookup f23 = some ⟨oc23, od23, .func (PySem.W.fnOf "_law_taken" "_law_taken" (defArgs s_law_taken) (defBody s_law_taken) (defScope s_law_taken) .none kV23 dc23 pm23 an23 cd23 ct23), sl23⟩)
    (c23 : PySem.W.codeIn K cd23 "_law_taken" = true)
    (k23 : PySem.W.keepIn K (.ref f23) = true)
    (a24 : PySem.W.nsIn K mainGlobals "_law_table" = some (some (.ref f24)))
    (l24 : K.lookup f24 = some ⟨oc24, od24, .func (PySem.W.fnOf "_law_table" "_law_table" (defArgs s_law_table) (defBody s_law_table) (defScope s_law_table) .none kV24 dc24 pm24 an24 cd24 ct24), sl24⟩)
    (c24 : PySem.W.codeIn K cd24 "_law_table" = true)
    (k24 : PySem.W.keepIn K (.ref f24) = true)
    (a25 : PySem.W.nsIn K mainGlobals "_law_within" = some (some (.ref f25)))
    (l25 : K.lookup f25 = some ⟨oc25, od25, .func (PySem.W.fnOf "_law_within" "_law_within" (defArgs s_law_within) (defBody s_law_within) (defScope s_law_within) .none kV25 dc25 pm25 an25 cd25 ct25), sl25⟩)
    (c25 : PySem.W.codeIn K cd25 "_law_within" = true)
    (k25 : PySem.W.keepIn K (.ref f25) = true)
    (a26 : PySem.W.nsIn K mainGlobals "_law_either" = some (some (.ref f26)))
    (l26 : K.lookup f26 = some ⟨oc26, od26, .func (PySem.W.fnOf "_law_either" "_law_either" (defArgs s_law_either) (defBody s_law_either) (defScope s_law_either) .none kV26 dc26 pm26 an26 cd26 ct26), sl26⟩)
    (c26 : PySem.W.codeIn K cd26 "_law_either" = true)
    (k26 : PySem.W.keepIn K (.ref f26) = true)
    (a27 : PySem.W.nsIn K mainGlobals "_law_long" = some (some (.ref f27)))
    (l27 : K.lookup f27 = some ⟨oc27, od27, .func (PySem.W.fnOf "_law_long" "_law_long" (defArgs s_law_long) (defBody s_law_long) (defScope s_law_long) .none kV27 dc27 pm27 an27 cd27 ct27), sl27⟩)
    (c27 : PySem.W.codeIn K cd27 "_law_long" = true)
    (k27 : PySem.W.keepIn K (.ref f27) = true)
    (a28 : PySem.W.nsIn K mainGlobals "law" = some (some (.ref f28)))
    (l28 : K.lookup f28 = some ⟨oc28, od28, .func (PySem.W.fnOf "law" "law" (defArgs s_law) (defBody s_law) (defScope s_law) .none kV28 dc28 pm28 an28 cd28 ct28), sl28⟩)
    (c28 : PySem.W.codeIn K cd28 "law" = true)
    (k28 : PySem.W.keepIn K (.ref f28) = true)
    (pg : PySem.W.plainGet K C Str.empty = true)
    (hd : PySem.W.hasDictIn K C = true)
    (po : PySem.W.plainOver K C = true)
    (sa : PySem.W.findIn K (.ref C) "__setattr__" = some (some (.builtin "object.__setattr__")))
    (mk : PySem.W.makesIn K C = true)
    (kc : PySem.W.keepIn K (.ref C) = true)
    (nL : PySem.W.findIn K (.ref C) "_literals" = some none)
    (nM : PySem.W.findIn K (.ref C) "_least" = some none)
    (z_len : PySem.W.nsIn K mainGlobals "len" = some none)
    (z_all : PySem.W.nsIn K mainGlobals "all" = some none)
    (z_sum : PySem.W.nsIn K mainGlobals "sum" = some none)
    (z_min : PySem.W.nsIn K mainGlobals "min" = some none)
    (z_max : PySem.W.nsIn K mainGlobals "max" = some none)
    (z_abs : PySem.W.nsIn K mainGlobals "abs" = some none)
    (z_int : PySem.W.nsIn K mainGlobals "int" = some none)
    (z_tuple : PySem.W.nsIn K mainGlobals "tuple" = some none)
    (z_list : PySem.W.nsIn K mainGlobals "list" = some none)
    (z_range : PySem.W.nsIn K mainGlobals "range" = some none)
    (z_enumerate : PySem.W.nsIn K mainGlobals "enumerate" = some none) :
    ∃ fd : FuncData, (∀ (s : Shared) (v : Value), BindsTo s fd ⟨[v], []⟩ [("_law_script", v)]) ∧ ∀ base : Heap, K.In base → base.Ns mainGlobals mg → FnOk l.prog w K mg base CX0 6 fa fd ["_law_script"] (sp_law K) := by
  have e := hfa.symm.trans (PySem.W.mg_of X G a28)
  cases e
  have T : Txt K mg C tk := ⟨⟨pg, hd, po, sa⟩, nL, nM, PySem.W.mg_of X G aC, PySem.W.mg_of X G aX, PySem.W.mg_none_of X G z_len, PySem.W.mg_none_of X G z_all, PySem.W.mg_none_of X G z_sum, PySem.W.mg_none_of X G z_min, PySem.W.mg_none_of X G z_max, PySem.W.mg_none_of X G z_abs, PySem.W.mg_none_of X G z_int, PySem.W.mg_none_of X G z_tuple, PySem.W.mg_none_of X G z_list, PySem.W.mg_none_of X G z_range, PySem.W.mg_none_of X G z_enumerate⟩
  have F1 := fun_mk (st := s_check_points) l1 c1 k1
  have b1 := F1.binds (ps := ["n"]) fun _ _ _ _ _ _ us hl => match us, hl with | [_], _ => rfl
  have F2 := fun_mk (st := s_check_point) l2 c2 k2
  have b2 := F2.binds (ps := ["n", "a"]) fun _ _ _ _ _ _ us hl => match us, hl with | [_, _], _ => rfl
  have F3 := fun_mk (st := s_check_literals) l3 c3 k3
  have b3 := F3.binds (ps := ["n", "literals"]) fun _ _ _ _ _ _ us hl => match us, hl with | [_, _], _ => rfl
  have F4 := fun_mk (st := s_satisfies) l4 c4 k4
  have b4 := F4.binds (ps := ["values", "literals"]) fun _ _ _ _ _ _ us hl => match us, hl with | [_, _], _ => rfl
  have F5 := fun_mk (st := s_is_ring) l5 c5 k5
  have b5 := F5.binds (ps := ["ring"]) fun _ _ _ _ _ _ us hl => match us, hl with | [_], _ => rfl
  have F6 := fun_mk (st := s_ring_at) l6 c6 k6
  have b6 := F6.binds (ps := ["n", "last", "start"]) fun _ _ _ _ _ _ us hl => match us, hl with | [_, _, _], _ => rfl
  have F7 := fun_mk (st := s_ring_from) l7 c7 k7
  have b7 := F7.binds (ps := ["n", "last", "start"]) fun _ _ _ _ _ _ us hl => match us, hl with | [_, _, _], _ => rfl
  have F8 := fun_mk (st := s_find_ring) l8 c8 k8
  have b8 := F8.binds (ps := ["n", "literals"]) fun _ _ _ _ _ _ us hl => match us, hl with | [_, _], _ => rfl
  have F9 := fun_mk (st := s_joined) l9 c9 k9
  have b9 := F9.binds (ps := ["first", "second"]) fun _ _ _ _ _ _ us hl => match us, hl with | [_, _], _ => rfl
  have F10 := fun_mk (st := s_is_less) l10 c10 k10
  have b10 := F10.binds (ps := ["first", "second"]) fun _ _ _ _ _ _ us hl => match us, hl with | [_, _], _ => rfl
  have F11 := fun_mk (st := s_moved) l11 c11 k11
  have b11 := F11.binds (ps := ["values"]) fun _ _ _ _ _ _ us hl => match us, hl with | [_], _ => rfl
  have F12 := fun_mk (st := s_init) l12 c12 k12
  have b12 := F12.binds (ps := ["self", "n"]) fun _ _ _ _ _ _ us hl => match us, hl with | [_, _], _ => rfl
  have F13 := fun_mk (st := s_size) l13 c13 k13
  have b13 := F13.binds (ps := ["self"]) fun _ _ _ _ _ _ us hl => match us, hl with | [_], _ => rfl
  have F14 := fun_mk (st := s_bound) l14 c14 k14
  have b14 := F14.binds (ps := ["self", "a", "b"]) fun _ _ _ _ _ _ us hl => match us, hl with | [_, _, _], _ => rfl
  have F15 := fun_mk (st := s_shorten) l15 c15 k15
  have b15 := F15.binds (ps := ["self", "a", "b", "c"]) fun _ _ _ _ _ _ us hl => match us, hl with | [_, _, _, _], _ => rfl
  have F16 := fun_mk (st := s_add) l16 c16 k16
  have b16 := F16.binds (ps := ["self", "a", "b", "c"]) fun _ _ _ _ _ _ us hl => match us, hl with | [_, _, _, _], _ => rfl
  have F17 := fun_mk (st := s_low) l17 c17 k17
  have b17 := F17.binds (ps := ["self", "points"]) fun _ _ _ _ _ _ us hl => match us, hl with | [_, _], _ => rfl
  have F18 := fun_mk (st := s_any_values) l18 c18 k18
  have b18 := F18.binds (ps := ["self"]) fun _ _ _ _ _ _ us hl => match us, hl with | [_], _ => rfl
  have F19 := fun_mk (st := s_take) l19 c19 k19
  have b19 := F19.binds (ps := ["self", "literals", "least"]) fun _ _ _ _ _ _ us hl => match us, hl with | [_, _, _], _ => rfl
  have F20 := fun_mk (st := s_copy) l20 c20 k20
  have b20 := F20.binds (ps := ["self"]) fun _ _ _ _ _ _ us hl => match us, hl with | [_], _ => rfl
  have F21 := fun_mk (st := s_law_numbers) l21 c21 k21
  have b21 := F21.binds (ps := ["_law_script", "_law_many"]) fun _ _ _ _ _ _ us hl => match us, hl with | [_, _], _ => rfl
  have F22 := fun_mk (st := s_law_literals) l22 c22 k22
  have b22 := F22.binds (ps := ["_law_numbers_here", "_law_at", "_law_n", "_law_count", "_law_size"]) fun _ _ _ _ _ _ us hl => match us, hl with | [_, _, _, _, _], _ => rfl
  have F23 := fun_mk (st := s_law_taken) l23 c23 k23
  have b23 := F23.binds (ps := ["_law_n", "_law_literals_here"]) fun _ _ _ _ _ _ us hl => match us, hl with | [_, _], _ => rfl
  have F24 := fun_mk (st := s_law_table) l24 c24 k24
  have b24 := F24.binds (ps := ["_law_bounds"]) fun _ _ _ _ _ _ us hl => match us, hl with | [_], _ => rfl
  have F25 := fun_mk (st := s_law_within) l25 c25 k25
  have b25 := F25.binds (ps := ["_law_values", "_law_table_here"]) fun _ _ _ _ _ _ us hl => match us, hl with | [_, _], _ => rfl
  have F26 := fun_mk (st := s_law_either) l26 c26 k26
  have b26 := F26.binds (ps := ["_law_n", "_law_literals_here"]) fun _ _ _ _ _ _ us hl => match us, hl with | [_, _], _ => rfl
  have F27 := fun_mk (st := s_law_long) l27 c27 k27
  have b27 := F27.binds (ps := ["_law_numbers_here"]) fun _ _ _ _ _ _ us hl => match us, hl with | [_], _ => rfl
  have F28 := fun_mk (st := s_law) l28 c28 k28
  refine ⟨PySem.W.fnOf "law" "law" (defArgs s_law) (defBody s_law) (defScope s_law) .none kV28 dc28 pm28 an28 cd28 ct28, fun s v => .of_eq rfl, fun base _ _ => ?_⟩
  have c_check_points : Cal l.prog w K mg base "check_points" ["n"] 1 sp_check_points := ⟨f1, _, ok_check_points F1 T , PySem.W.mg_of X G a1, k1, b1⟩
  have c_check_point : Cal l.prog w K mg base "check_point" ["n", "a"] 1 sp_check_point := ⟨f2, _, ok_check_point F2 T , PySem.W.mg_of X G a2, k2, b2⟩
  have c_check_literals : Cal l.prog w K mg base "check_literals" ["n", "literals"] 2 (sp_check_literals K) := ⟨f3, _, ok_check_literals F3 T c_check_points c_check_point, PySem.W.mg_of X G a3, k3, b3⟩
  have c_satisfies : Cal l.prog w K mg base "satisfies" ["values", "literals"] 1 (sp_satisfies K) := ⟨f4, _, ok_satisfies F4 T , PySem.W.mg_of X G a4, k4, b4⟩
  have c_is_ring : Cal l.prog w K mg base "is_ring" ["ring"] 1 (sp_is_ring K) := ⟨f5, _, ok_is_ring F5 T , PySem.W.mg_of X G a5, k5, b5⟩
  have c_ring_at : Cal l.prog w K mg base "ring_at" ["n", "last", "start"] 1 (sp_ring_at K) := ⟨f6, _, ok_ring_at F6 T , PySem.W.mg_of X G a6, k6, b6⟩
  have c_ring_from : Cal l.prog w K mg base "ring_from" ["n", "last", "start"] 1 (sp_ring_from K) := ⟨f7, _, ok_ring_from F7 T , PySem.W.mg_of X G a7, k7, b7⟩
  have c_find_ring : Cal l.prog w K mg base "find_ring" ["n", "literals"] 3 (sp_find_ring K) := ⟨f8, _, ok_find_ring F8 T c_check_literals c_ring_at c_ring_from, PySem.W.mg_of X G a8, k8, b8⟩
  have c_joined : Cal l.prog w K mg base "joined" ["first", "second"] 1 sp_joined := ⟨f9, _, ok_joined F9 T , PySem.W.mg_of X G a9, k9, b9⟩
  have c_is_less : Cal l.prog w K mg base "is_less" ["first", "second"] 1 sp_is_less := ⟨f10, _, ok_is_less F10 T , PySem.W.mg_of X G a10, k10, b10⟩
  have c_moved : Cal l.prog w K mg base "moved" ["values"] 1 (sp_moved K) := ⟨f11, _, ok_moved F11 T , PySem.W.mg_of X G a11, k11, b11⟩
  have c___init__ : CalI l.prog w K mg base C ["self", "n"] 2 (sp_init C) := ⟨f12, _, ok_init F12 T c_check_points, ⟨mk, a12, i12, kc⟩, b12⟩
  have c_size : CalM l.prog w K mg base C "size" ["self"] 1 (sp_size C) := ⟨f13, _, ok_size F13 T , ⟨a13, i13, k13⟩, b13⟩
  have c_bound : CalM l.prog w K mg base C "bound" ["self", "a", "b"] 1 (sp_bound C) := ⟨f14, _, ok_bound F14 T , ⟨a14, i14, k14⟩, b14⟩
  have c__shorten : CalM l.prog w K mg base C "_shorten" ["self", "a", "b", "c"] 2 (sp_shorten C) := ⟨f15, _, ok_shorten F15 T c_joined c_is_less, ⟨a15, i15, k15⟩, b15⟩
  have c_add : CalM l.prog w K mg base C "add" ["self", "a", "b", "c"] 3 (sp_add C) := ⟨f16, _, ok_add F16 T c_is_less c_bound c__shorten, ⟨a16, i16, k16⟩, b16⟩
  have c__low : CalM l.prog w K mg base C "_low" ["self", "points"] 1 (sp_low K C) := ⟨f17, _, ok_low F17 T , ⟨a17, i17, k17⟩, b17⟩
  have c_any_values : CalM l.prog w K mg base C "any_values" ["self"] 2 (sp_any_values C) := ⟨f18, _, ok_any_values F18 T c_moved c_size c__low, ⟨a18, i18, k18⟩, b18⟩
  have c__take : CalM l.prog w K mg base C "_take" ["self", "literals", "least"] 1 (sp_take C) := ⟨f19, _, ok_take F19 T , ⟨a19, i19, k19⟩, b19⟩
  have c_copy : CalM l.prog w K mg base C "copy" ["self"] 4 (sp_copy C) := ⟨f20, _, ok_copy F20 T c___init__ c_size c__take, ⟨a20, i20, k20⟩, b20⟩
  have c__law_numbers : Cal l.prog w K mg base "_law_numbers" ["_law_script", "_law_many"] 1 (sp_law_numbers K) := ⟨f21, _, ok_law_numbers F21 T , PySem.W.mg_of X G a21, k21, b21⟩
  have c__law_literals : Cal l.prog w K mg base "_law_literals" ["_law_numbers_here", "_law_at", "_law_n", "_law_count", "_law_size"] 1 (sp_law_literals K) := ⟨f22, _, ok_law_literals F22 T , PySem.W.mg_of X G a22, k22, b22⟩
  have c__law_taken : Cal l.prog w K mg base "_law_taken" ["_law_n", "_law_literals_here"] 4 (sp_law_taken K C) := ⟨f23, _, ok_law_taken F23 T c___init__ c_add, PySem.W.mg_of X G a23, k23, b23⟩
  have c__law_table : Cal l.prog w K mg base "_law_table" ["_law_bounds"] 2 (sp_law_table C) := ⟨f24, _, ok_law_table F24 T c_size c_bound, PySem.W.mg_of X G a24, k24, b24⟩
  have c__law_within : Cal l.prog w K mg base "_law_within" ["_law_values", "_law_table_here"] 1 (sp_law_within K) := ⟨f25, _, ok_law_within F25 T , PySem.W.mg_of X G a25, k25, b25⟩
  have c__law_either : Cal l.prog w K mg base "_law_either" ["_law_n", "_law_literals_here"] 5 (sp_law_either K) := ⟨f26, _, ok_law_either F26 T c__law_taken c_find_ring c_satisfies c_is_ring c_any_values, PySem.W.mg_of X G a26, k26, b26⟩
  have c__law_long : Cal l.prog w K mg base "_law_long" ["_law_numbers_here"] 4 (sp_law_long K) := ⟨f27, _, ok_law_long F27 T c_find_ring c_is_ring, PySem.W.mg_of X G a27, k27, b27⟩
  exact ok_law F28 T c__law_numbers c__law_literals c__law_either c__law_long c__law_taken c__law_table c__law_within c_find_ring c_satisfies c_any_values c_add c_bound c_copy
theorem walk {l : PySem.W.OpenLaw} {q : Program} {loose : List Str} {XP : (Str → Option Value) → Heap → Prop} {YP : World → Heap → Prop} {d : DefRec} {K : Params → PySem.W.Frag} (hn : l.most = some 63) (hdf : d.params.defaults = [])
    (hY : ∀ (w : World) (h : Heap), YP w h → (K w.params).In h)
    (F : ∀ (w : World) (mg : Str → Option Value) (fa : Addr) (h : Heap), (K w.params).In h → h.Ns mainGlobals mg → mg d.name = some (.ref fa) →
      ∃ fd : FuncData, (∀ (s : Shared) (u : Value), BindsTo s fd ⟨[u], []⟩ [("_law_script", u)]) ∧ ∀ base : Heap, (K w.params).In base → base.Ns mainGlobals mg → FnOk l.prog w (K w.params) mg base CX0 6 fa fd ["_law_script"] (sp_law (K w.params))) :
    PySem.W.WalkO q loose XP YP l.row.toRowW d [] (fun f vs => PySem.call f vs) :=
  L2.walk_of (n := 63) (k := 6) (x := "_law_script") (CX := fun _ => CX0) (sp := fun w => sp_law (K w.params)) hn (by decide) hdf ⟨rfl, by decide, by decide⟩ hY F (fun _ _ a ns hl _ hS => ⟨a, ns, rfl, hS, hl, fun _ => rfl⟩) fun _ _ _ _ _ z => z
end K20

open PySem PySem.W PyProof.Rows in
set_option maxRecDepth 100000 in
set_option maxHeartbeats 0 in
theorem PySem.Challenge.cw_diesnon_k20_whole_ring_or_values_holds : PySem.Challenge.rw_diesnon_k20_whole_ring_or_values.Holds := by
  w_on; o_law; k_head; (case hw => w_witness2)
  k_fill
  refine K20.walk (l := PySem.Challenge.rw_diesnon_k20_whole_ring_or_values) rfl rfl (fun w h Y => PySem.W.kIn_of Y) ?F
  case F =>
    intro w mg fa h KX G hmg
    refine' K20.all_mk KX G hmg ?aC ?aX ?a1 ?l1 ?c1 ?k1 ?a2 ?l2 ?c2 ?k2 ?a3 ?l3 ?c3 ?k3 ?a4 ?l4 ?c4 ?k4 ?a5 ?l5 ?c5 ?k5 ?a6 ?l6 ?c6 ?k6 ?a7 ?l7 ?c7 ?k7 ?a8 ?l8 ?c8 ?k8 ?a9 ?l9 ?c9 ?k9 ?a10 ?l10 ?c10 ?k10 ?a11 ?l11 ?c11 ?k11 ?a12 ?i12 ?l12 ?c12 ?k12 ?a13 ?i13 ?l13 ?c13 ?k13 ?a14 ?i14 ?l14 ?c14 ?k14 ?a15 ?i15 ?l15 ?c15 ?k15 ?a16 ?i16 ?l16 ?c16 ?k16 ?a17 ?i17 ?l17 ?c17 ?k17 ?a18 ?i18 ?l18 ?c18 ?k18 ?a19 ?i19 ?l19 ?c19 ?k19 ?a20 ?i20 ?l20 ?c20 ?k20 ?a21 ?l21 ?c21 ?k21 ?a22 ?l22 ?c22 ?k22 ?a23 ?l23 ?c23 ?k23 ?a24 ?l24 ?c24 ?k24 ?a25 ?l25 ?c25 ?k25 ?a26 ?l26 ?c26 ?k26 ?a27 ?l27 ?c27 ?k27 ?a28 ?l28 ?c28 ?k28 ?pg ?hd ?po ?sa ?mk ?kc ?nL ?nM ?z_len ?z_all ?z_sum ?z_min ?z_max ?z_abs ?z_int ?z_tuple ?z_list ?z_range ?z_enumerate
    (case aC => k_is)
    (case aX => k_is)
    (case a1 => k_is)
    (case l1 => k_is)
    (case c1 => k_is)
    (case k1 => k_is)
    (case a2 => k_is)
    (case l2 => k_is)
    (case c2 => k_is)
    (case k2 => k_is)
    (case a3 => k_is)
    (case l3 => k_is)
    (case c3 => k_is)
    (case k3 => k_is)
    (case a4 => k_is)
    (case l4 => k_is)
    (case c4 => k_is)
    (case k4 => k_is)
    (case a5 => k_is)
    (case l5 => k_is)
    (case c5 => k_is)
    (case k5 => k_is)
    (case a6 => k_is)
    (case l6 => k_is)
    (case c6 => k_is)
    (case k6 => k_is)
    (case a7 => k_is)
    (case l7 => k_is)
    (case c7 => k_is)
    (case k7 => k_is)
    (case a8 => k_is)
    (case l8 => k_is)
    (case c8 => k_is)
    (case k8 => k_is)
    (case a9 => k_is)
    (case l9 => k_is)
    (case c9 => k_is)
    (case k9 => k_is)
    (case a10 => k_is)
    (case l10 => k_is)
    (case c10 => k_is)
    (case k10 => k_is)
    (case a11 => k_is)
    (case l11 => k_is)
    (case c11 => k_is)
    (case k11 => k_is)
    (case a12 => k_is)
    (case i12 => k_is)
    (case l12 => k_is)
    (case c12 => k_is)
    (case k12 => k_is)
    (case a13 => k_is)
    (case i13 => k_is)
    (case l13 => k_is)
    (case c13 => k_is)
    (case k13 => k_is)
    (case a14 => k_is)
    (case i14 => k_is)
    (case l14 => k_is)
    (case c14 => k_is)
    (case k14 => k_is)
    (case a15 => k_is)
    (case i15 => k_is)
    (case l15 => k_is)
    (case c15 => k_is)
    (case k15 => k_is)
    (case a16 => k_is)
    (case i16 => k_is)
    (case l16 => k_is)
    (case c16 => k_is)
    (case k16 => k_is)
    (case a17 => k_is)
    (case i17 => k_is)
    (case l17 => k_is)
    (case c17 => k_is)
    (case k17 => k_is)
    (case a18 => k_is)
    (case i18 => k_is)
    (case l18 => k_is)
    (case c18 => k_is)
    (case k18 => k_is)
    (case a19 => k_is)
    (case i19 => k_is)
    (case l19 => k_is)
    (case c19 => k_is)
    (case k19 => k_is)
    (case a20 => k_is)
    (case i20 => k_is)
    (case l20 => k_is)
    (case c20 => k_is)
    (case k20 => k_is)
    (case a21 => k_is)
    (case l21 => k_is)
    (case c21 => k_is)
    (case k21 => k_is)
    (case a22 => k_is)
    (case l22 => k_is)
    (case c22 => k_is)
    (case k22 => k_is)
    (case a23 => k_is)
    (case l23 => k_is)
    (case c23 => k_is)
    (case k23 => k_is)
    (case a24 => k_is)
    (case l24 => k_is)
    (case c24 => k_is)
    (case k24 => k_is)
    (case a25 => k_is)
    (case l25 => k_is)
    (case c25 => k_is)
    (case k25 => k_is)
    (case a26 => k_is)
    (case l26 => k_is)
    (case c26 => k_is)
    (case k26 => k_is)
    (case a27 => k_is)
    (case l27 => k_is)
    (case c27 => k_is)
    (case k27 => k_is)
    (case a28 => k_is)
    (case l28 => k_is)
    (case c28 => k_is)
    (case k28 => k_is)
    (case pg => k_is)
    (case hd => k_is)
    (case po => k_is)
    (case sa => k_is)
    (case mk => k_is)
    (case kc => k_is)
    (case nL => k_is)
    (case nM => k_is)
    (case z_len => k_is)
    (case z_all => k_is)
    (case z_sum => k_is)
    (case z_min => k_is)
    (case z_max => k_is)
    (case z_abs => k_is)
    (case z_int => k_is)
    (case z_tuple => k_is)
    (case z_list => k_is)
    (case z_range => k_is)
    (case z_enumerate => k_is)
