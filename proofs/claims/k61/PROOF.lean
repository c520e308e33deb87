import PyProof.Rows.All
import Wide.All
import OpenK.AllK
import Wide.FinOn
import HandS.ForMost
import HandS.Walk
import HandS.Star
import HandS.TupSets
import KE.KeyNested
import KE.SortData
import KE.DataCmp
import PyProof.DictUpdate
import PyProof.P3In
import HandS.ClsMeth
import HandS.Deep
import HandS.IsInst
import HandS.Codes
import KE.GoesEnum
import HandS.Zip
import PySem.Challenge.RW_thincoins_k61_whole_towns_answer_as_thei
import HandS.TupAny
import HandS.Defaults
import HandS.Text
import KE.BitLaws
import HandS.TryOnly
import KE.KStateDown
import HandS.Head0
import HandS.Head1
import HandS.Head2
import HandS.HeadEnd
import HandS.HeadHook1
import HandS.HeadHook2
import HandS.HeadHook3
import HandS.HeadHook4
import HandS.HeadNt
set_option Elab.async false
set_option linter.all false
section
/-! K61, mathematics 1: question trees, towns, views; a town answers as its views do. Pure Lean. -/
set_option autoImplicit false
namespace K61

inductive Nm where
  | x | y | z
  deriving DecidableEq

/-- a question: t tells tied from same, o or from and, s some from all -/
inductive Qn where
  | atom (t : Bool) (a b : Nm)
  | neg (q : Qn)
  | bin (o : Bool) (p q : Qn)
  | look (s : Bool) (a : Nm) (q : Qn)

namespace Qn
def size : Qn → Nat
  | atom _ _ _ => 3
  | neg q => 1 + q.size
  | bin _ p q => 1 + p.size + q.size
  | look _ _ q => 2 + q.size
def looks : Qn → Nat
  | atom _ _ _ => 0
  | neg q => q.looks
  | bin _ p q => max p.looks q.looks
  | look _ _ q => 1 + q.looks
def free : Qn → List Nm
  | atom _ a b => [a, b]
  | neg q => q.free
  | bin _ p q => p.free ++ q.free
  | look _ a q => q.free.filter fun b => decide (b ≠ a)
/-- how deep the parts lie -/
def deep : Qn → Nat
  | atom _ _ _ => 1
  | neg q => q.deep + 1
  | bin _ p q => max p.deep q.deep + 1
  | look _ _ q => q.deep + 1
theorem size_ge : ∀ q : Qn, 3 ≤ q.size
  | atom _ _ _ => Nat.le_refl 3
  | neg q => by have := q.size_ge; simp only [size]; omega
  | bin _ p q => by have := p.size_ge; have := q.size_ge; simp only [size]; omega
  | look _ _ q => by have := q.size_ge; simp only [size]; omega
theorem deep_le : ∀ q : Qn, q.deep + 2 ≤ q.size
  | atom _ _ _ => Nat.le_refl 3
  | neg q => by have := q.deep_le; simp only [size, deep]; omega
  | bin _ p q => by have := p.deep_le; have := q.deep_le; simp only [size, deep]; omega
  | look _ _ q => by have := q.deep_le; simp only [size, deep]; omega
end Qn

/-- a name's thing is put anew -/
def putN (e : Nm → Nat) (a : Nm) (t : Nat) : Nm → Nat := fun b => if b = a then t else e b

/-- whether a question holds in the town of n things with these ties -/
def sem (n : Nat) (adj : Nat → Nat → Bool) : Qn → (Nm → Nat) → Bool
  | .atom t a b, e => if t then adj (e a) (e b) else decide (e a = e b)
  | .neg q, e => !sem n adj q e
  | .bin o p q, e => if o then sem n adj p e || sem n adj q e else sem n adj p e && sem n adj q e
  | .look s a q, e => if s then (List.range n).any fun t => sem n adj q (putN e a t) else (List.range n).all fun t => sem n adj q (putN e a t)

/-! ### views -/
abbrev Sgt := Bool × List Nat
abbrev Vw := List Sgt
/-- the number of a third thing c beside a and b -/
def code (adj : Nat → Nat → Bool) (a b c : Nat) : Nat := 2 * (adj a c).toNat + (adj b c).toNat
def lots (n : Nat) (adj : Nat → Nat → Bool) (a b : Nat) : List Nat :=
  [0, 1, 2, 3].filter fun k => (List.range n).any fun c => decide (c ≠ a) && decide (c ≠ b) && decide (code adj a b c = k)
def sight (n : Nat) (adj : Nat → Nat → Bool) (a b : Nat) : Sgt := (adj a b, lots n adj a b)
/-- the sixteen lots of numbers below four, ascending as Python has it -/
def allLots : List (List Nat) := [[], [0], [0, 1], [0, 1, 2], [0, 1, 2, 3], [0, 1, 3], [0, 2], [0, 2, 3], [0, 3], [1], [1, 2], [1, 2, 3], [1, 3], [2], [2, 3], [3]]
def allSights : List Sgt := (allLots.map fun l => (false, l)) ++ allLots.map fun l => (true, l)
def view (n : Nat) (adj : Nat → Nat → Bool) (a : Nat) : Vw :=
  allSights.filter fun s => (List.range n).any fun b => decide (b ≠ a) && decide (sight n adj a b = s)

theorem lots_all (p : Nat → Bool) : [0, 1, 2, 3].filter p ∈ allLots := by
  cases h0 : p 0 <;> cases h1 : p 1 <;> cases h2 : p 2 <;> cases h3 : p 3 <;> simp [h0, h1, h2, h3, allLots]
theorem sight_all (n : Nat) (adj : Nat → Nat → Bool) (a b : Nat) : sight n adj a b ∈ allSights := by
  unfold sight allSights
  have h : lots n adj a b ∈ allLots := lots_all _
  cases adj a b
  · exact List.mem_append_left _ (List.mem_map.mpr ⟨_, h, rfl⟩)
  · exact List.mem_append_right _ (List.mem_map.mpr ⟨_, h, rfl⟩)
theorem mem_view {n : Nat} {adj : Nat → Nat → Bool} {a : Nat} {s : Sgt} : s ∈ view n adj a ↔ ∃ b, b < n ∧ b ≠ a ∧ sight n adj a b = s := by
  unfold view
  rw [List.mem_filter, List.any_eq_true]
  constructor
  · rintro ⟨_, b, hb, h⟩
    simp only [Bool.and_eq_true, decide_eq_true_eq] at h
    exact ⟨b, List.mem_range.mp hb, h.1, h.2⟩
  · rintro ⟨b, hb, hne, e⟩
    refine ⟨e ▸ sight_all n adj a b, b, List.mem_range.mpr hb, ?_⟩
    simp only [Bool.and_eq_true, decide_eq_true_eq]
    exact ⟨hne, e⟩
theorem mem_lots {n : Nat} {adj : Nat → Nat → Bool} {a b k : Nat} : k ∈ lots n adj a b ↔ ∃ c, c < n ∧ c ≠ a ∧ c ≠ b ∧ code adj a b c = k := by
  unfold lots
  rw [List.mem_filter, List.any_eq_true]
  constructor
  · rintro ⟨_, c, hc, h⟩
    simp only [Bool.and_eq_true, decide_eq_true_eq] at h
    exact ⟨c, List.mem_range.mp hc, h.1.1, h.1.2, h.2⟩
  · rintro ⟨c, hc, h1, h2, e⟩
    refine ⟨?_, c, List.mem_range.mpr hc, ?_⟩
    · rw [← e]
      unfold code
      cases adj a c <;> cases adj b c <;> simp
    · simp only [Bool.and_eq_true, decide_eq_true_eq]
      exact ⟨⟨h1, h2⟩, e⟩

/-! ### answers by views -/
/-- what is placed: the first thing's view, its sight on the second, the ties -/
inductive Pl where
  | zero
  | one (v : Vw)
  | two (v : Vw) (s : Sgt) (ties : List (Nat × Nat))
def Pl.ties : Pl → List (Nat × Nat)
  | .two _ _ ts => ts
  | _ => []
def tot (k : Nat) : List (Nat × Nat) := (if 2 ≤ k then [(0, 2)] else []) ++ if k % 2 = 1 then [(1, 2)] else []
def tie2 (t : Bool) : List (Nat × Nat) := if t then [(0, 1)] else []
def steps (vs : List Vw) : Pl → List (Nat × Pl)
  | .zero => vs.map fun v => (0, .one v)
  | .one v => (0, .one v) :: v.map fun s => (1, .two v s (tie2 s.1))
  | .two v s ts => (0, .two v s ts) :: (1, .two v s ts) :: s.2.map fun k => (2, .two v s (ts ++ tot k))
def hb (vs : List Vw) : Qn → Pl → (Nm → Nat) → Bool
  | .atom t a b, p, e => if t then decide ((min (e a) (e b), max (e a) (e b)) ∈ p.ties) else decide (e a = e b)
  | .neg q, p, e => !hb vs q p e
  | .bin o q r, p, e => if o then hb vs q p e || hb vs r p e else hb vs q p e && hb vs r p e
  | .look s a q, p, e => if s then (steps vs p).any fun st => hb vs q st.2 (putN e a st.1) else (steps vs p).all fun st => hb vs q st.2 (putN e a st.1)

section
variable (n : Nat) (adj : Nat → Nat → Bool)
/-- the place where these things are placed, in this order -/
def plOf : List Nat → Pl
  | [] => .zero
  | [a] => .one (view n adj a)
  | [a, b] => .two (view n adj a) (sight n adj a b) (tie2 (adj a b))
  | a :: b :: c :: _ => .two (view n adj a) (sight n adj a b) (tie2 (adj a b) ++ tot (code adj a b c))
end
section
variable {n : Nat} {adj : Nat → Nat → Bool} (sym : ∀ a b, adj a b = adj b a) (irr : ∀ a, adj a a = false)
include sym irr
theorem atom_ok {L : List Nat} (hl : L.length ≤ 3) {i j a b : Nat} (hi : L[i]? = some a) (hj : L[j]? = some b) :
    adj a b = decide ((min i j, max i j) ∈ (plOf n adj L).ties) := by
  match L, hl with
  | [], _ => simp at hi
  | [p], _ =>
    match i, j with
    | 0, 0 =>
      simp at hi hj
      subst hi; subst hj
      simp [plOf, Pl.ties, irr]
    | 0, j + 1 => simp at hj
    | i + 1, _ => simp at hi
  | [p, q], _ =>
    match i, j with
    | 0, 0 => simp at hi hj; subst hi; subst hj; cases h : adj p q <;> simp [plOf, Pl.ties, tie2, irr, h]
    | 0, 1 => simp at hi hj; subst hi; subst hj; cases h : adj p q <;> simp [plOf, Pl.ties, tie2, h]
    | 1, 0 => simp at hi hj; subst hi; subst hj; rw [sym]; cases h : adj p q <;> simp [plOf, Pl.ties, tie2, h]
    | 1, 1 => simp at hi hj; subst hi; subst hj; cases h : adj p q <;> simp [plOf, Pl.ties, tie2, irr, h]
    | i + 2, _ => simp at hi
    | 0, j + 2 => simp at hj
    | 1, j + 2 => simp at hj
  | [p, q, r], _ =>
    have key : ∀ m : Nat × Nat, decide (m ∈ (plOf n adj [p, q, r]).ties) = decide (m ∈ tie2 (adj p q) ++ ((if adj p r then [(0, 2)] else []) ++ if adj q r then [(1, 2)] else [])) := by
      intro m
      show decide (m ∈ tie2 (adj p q) ++ tot (code adj p q r)) = _
      cases h2 : adj p r <;> cases h3 : adj q r <;> simp [code, tot, h2, h3]
    rw [key]
    match i, j with
    | 0, 0 => simp at hi hj; subst hi; subst hj; rw [irr]; cases adj p q <;> cases adj p r <;> cases adj q r <;> simp [tie2]
    | 0, 1 => simp at hi hj; subst hi; subst hj; cases adj p q <;> cases adj p r <;> cases adj q r <;> simp [tie2]
    | 0, 2 => simp at hi hj; subst hi; subst hj; cases adj p q <;> cases adj p r <;> cases adj q r <;> simp [tie2]
    | 1, 0 => simp at hi hj; subst hi; subst hj; rw [sym q p]; cases adj p q <;> cases adj p r <;> cases adj q r <;> simp [tie2]
    | 1, 1 => simp at hi hj; subst hi; subst hj; rw [irr]; cases adj p q <;> cases adj p r <;> cases adj q r <;> simp [tie2]
    | 1, 2 => simp at hi hj; subst hi; subst hj; cases adj p q <;> cases adj p r <;> cases adj q r <;> simp [tie2]
    | 2, 0 => simp at hi hj; subst hi; subst hj; rw [sym r p]; cases adj p q <;> cases adj p r <;> cases adj q r <;> simp [tie2]
    | 2, 1 => simp at hi hj; subst hi; subst hj; rw [sym r q]; cases adj p q <;> cases adj p r <;> cases adj q r <;> simp [tie2]
    | 2, 2 => simp at hi hj; subst hi; subst hj; rw [irr]; cases adj p q <;> cases adj p r <;> cases adj q r <;> simp [tie2]
    | i + 3, _ => simp at hi
    | 0, j + 3 => simp at hj
    | 1, j + 3 => simp at hj
    | 2, j + 3 => simp at hj
  | _ :: _ :: _ :: _ :: _, h => simp at h
end

/-- the next placings -/
structure Next (n : Nat) (adj : Nat → Nat → Bool) (L : List Nat) (st : Nat × Pl) (t : Nat) (L' : List Nat) : Prop where
  lt : t < n
  pl : plOf n adj L' = st.2
  at_ : L'[st.1]? = some t
  nd : L'.Nodup
  le : L'.length ≤ L.length + 1
  bd : ∀ x ∈ L', x < n
  ext : ∀ (i x : Nat), L[i]? = some x → L'[i]? = some x
section
variable {n : Nat} {adj : Nat → Nat → Bool} {vs : List Vw} (hvs : ∀ v, v ∈ vs ↔ ∃ a, a < n ∧ v = view n adj a)
include hvs
theorem next_of_thing {L : List Nat} (hl : L.length ≤ 2) (hnd : L.Nodup) (hb : ∀ x ∈ L, x < n) {t : Nat} (ht : t < n) :
    ∃ st ∈ steps vs (plOf n adj L), ∃ L', Next n adj L st t L' := by
  match L, hl with
  | [], _ => exact ⟨(0, .one (view n adj t)), List.mem_map.mpr ⟨view n adj t, (hvs _).mpr ⟨t, ht, rfl⟩, rfl⟩, [t], ⟨ht, rfl, rfl, by simp, by simp, by simpa using ht, by simp⟩⟩
  | [a], _ =>
    by_cases e : t = a
    · subst e
      exact ⟨(0, .one (view n adj t)), by simp [plOf, steps], [t], ⟨ht, rfl, rfl, by simp, by simp, by simpa using ht, fun i x h => h⟩⟩
    · refine ⟨(1, .two (view n adj a) (sight n adj a t) (tie2 (adj a t))), ?_, [a, t], ⟨ht, rfl, rfl, ?_, by simp, ?_, ?_⟩⟩
      · simp only [plOf, steps]
        refine List.mem_cons_of_mem _ (List.mem_map.mpr ⟨sight n adj a t, mem_view.mpr ⟨t, ht, e, rfl⟩, rfl⟩)
      · simp [Ne.symm e]
      · intro x hx
        rcases List.mem_cons.mp hx with h | h
        · exact h ▸ hb a (by simp)
        · have : x = t := by simpa using h
          exact this ▸ ht
      · intro i x h
        match i with
        | 0 => simpa using h
        | i + 1 => simp at h
  | [a, b], _ =>
    by_cases e : t = a
    · subst e
      exact ⟨(0, _), by simp only [plOf, steps]; exact List.mem_cons_self, [t, b], ⟨ht, rfl, rfl, hnd, by simp, hb, fun i x h => h⟩⟩
    by_cases e2 : t = b
    · subst e2
      exact ⟨(1, _), by simp only [plOf, steps]; exact List.mem_cons_of_mem _ List.mem_cons_self, [a, t], ⟨ht, rfl, rfl, hnd, by simp, hb, fun i x h => h⟩⟩
    refine ⟨(2, .two (view n adj a) (sight n adj a b) (tie2 (adj a b) ++ tot (code adj a b t))), ?_, [a, b, t], ⟨ht, rfl, rfl, ?_, by simp, ?_, ?_⟩⟩
    · simp only [plOf, steps]
      refine List.mem_cons_of_mem _ (List.mem_cons_of_mem _ (List.mem_map.mpr ⟨code adj a b t, ?_, rfl⟩))
      exact mem_lots.mpr ⟨t, ht, e, e2, rfl⟩
    · simp at hnd
      simp [Ne.symm e, Ne.symm e2, hnd]
    · intro x hx
      simp at hx
      rcases hx with h | h | h
      · exact h ▸ hb a (by simp)
      · exact h ▸ hb b (by simp)
      · exact h ▸ ht
    · intro i x h
      match i with
      | 0 => simpa using h
      | 1 => simpa using h
      | i + 2 => simp at h
  | _ :: _ :: _ :: _, h => simp at h
theorem next_of_step {L : List Nat} (hl : L.length ≤ 2) (hnd : L.Nodup) (hb : ∀ x ∈ L, x < n) {st : Nat × Pl} (hs : st ∈ steps vs (plOf n adj L)) :
    ∃ t L', Next n adj L st t L' := by
  match L, hl with
  | [], _ =>
    obtain ⟨v, hv, rfl⟩ := List.mem_map.mp (show st ∈ vs.map fun v => ((0 : Nat), Pl.one v) from hs)
    obtain ⟨a, ha, rfl⟩ := (hvs v).mp hv
    exact ⟨a, [a], ⟨ha, rfl, rfl, by simp, by simp, by simpa using ha, by simp⟩⟩
  | [a], _ =>
    have ha : a < n := hb a (by simp)
    rcases List.mem_cons.mp (show st ∈ ((0 : Nat), Pl.one (view n adj a)) :: (view n adj a).map fun s => ((1 : Nat), Pl.two (view n adj a) s (tie2 s.1)) from hs) with rfl | h
    · exact ⟨a, [a], ⟨ha, rfl, rfl, by simp, by simp, hb, fun i x h => h⟩⟩
    · obtain ⟨s, hs', rfl⟩ := List.mem_map.mp h
      obtain ⟨t, ht, e, rfl⟩ := mem_view.mp hs'
      refine ⟨t, [a, t], ⟨ht, rfl, rfl, ?_, by simp, ?_, ?_⟩⟩
      · simp [Ne.symm e]
      · intro x hx
        simp at hx
        rcases hx with h | h
        · exact h ▸ ha
        · exact h ▸ ht
      · intro i x h
        match i with
        | 0 => simpa using h
        | i + 1 => simp at h
  | [a, b], _ =>
    have ha : a < n := hb a (by simp)
    have hb' : b < n := hb b (by simp)
    simp only [plOf, steps] at hs
    rcases List.mem_cons.mp hs with rfl | h
    · exact ⟨a, [a, b], ⟨ha, rfl, rfl, hnd, by simp, hb, fun i x h => h⟩⟩
    rcases List.mem_cons.mp h with rfl | h
    · exact ⟨b, [a, b], ⟨hb', rfl, rfl, hnd, by simp, hb, fun i x h => h⟩⟩
    obtain ⟨k, hk, rfl⟩ := List.mem_map.mp h
    obtain ⟨t, ht, e1, e2, rfl⟩ := mem_lots.mp (show k ∈ lots n adj a b from hk)
    refine ⟨t, [a, b, t], ⟨ht, rfl, rfl, ?_, by simp, ?_, ?_⟩⟩
    · simp at hnd
      simp [Ne.symm e1, Ne.symm e2, hnd]
    · intro x hx
      simp at hx
      rcases hx with h | h | h
      · exact h ▸ ha
      · exact h ▸ hb'
      · exact h ▸ ht
    · intro i x h
      match i with
      | 0 => simpa using h
      | 1 => simpa using h
      | i + 2 => simp at h
  | _ :: _ :: _ :: _, h => simp at h
end

theorem any_eq_any {α β : Type} {l : List α} {m : List β} {f : α → Bool} {g : β → Bool} (h1 : ∀ a ∈ l, ∃ b ∈ m, f a = g b) (h2 : ∀ b ∈ m, ∃ a ∈ l, f a = g b) : l.any f = m.any g := by
  rw [Bool.eq_iff_iff, List.any_eq_true, List.any_eq_true]
  constructor
  · rintro ⟨a, ha, e⟩
    obtain ⟨b, hb, q⟩ := h1 a ha
    exact ⟨b, hb, q ▸ e⟩
  · rintro ⟨b, hb, e⟩
    obtain ⟨a, ha, q⟩ := h2 b hb
    exact ⟨a, ha, q ▸ e⟩
theorem all_eq_all {α β : Type} {l : List α} {m : List β} {f : α → Bool} {g : β → Bool} (h1 : ∀ a ∈ l, ∃ b ∈ m, f a = g b) (h2 : ∀ b ∈ m, ∃ a ∈ l, f a = g b) : l.all f = m.all g := by
  rw [Bool.eq_iff_iff, List.all_eq_true, List.all_eq_true]
  constructor
  · intro H b hb
    obtain ⟨a, ha, q⟩ := h2 b hb
    exact q ▸ H a ha
  · intro H a ha
    obtain ⟨b, hb, q⟩ := h1 a ha
    exact q ▸ H b hb

section
variable {n : Nat} {adj : Nat → Nat → Bool} (sym : ∀ a b, adj a b = adj b a) (irr : ∀ a, adj a a = false) {vs : List Vw} (hvs : ∀ v, v ∈ vs ↔ ∃ a, a < n ∧ v = view n adj a)
include sym irr hvs
theorem sem_hb : ∀ (q : Qn) (L : List Nat) (e e' : Nm → Nat), q.looks + L.length ≤ 3 → L.Nodup → (∀ x ∈ L, x < n) → (∀ a ∈ q.free, L[e' a]? = some (e a)) →
    sem n adj q e = hb vs q (plOf n adj L) e'
  | .atom t a b, L, e, e', hl, hnd, hbd, hf => by
    have h1 := hf a (by simp [Qn.free])
    have h2 := hf b (by simp [Qn.free])
    have hl' : L.length ≤ 3 := by simp only [Qn.looks] at hl; omega
    cases t with
    | true =>
      show adj (e a) (e b) = decide ((min (e' a) (e' b), max (e' a) (e' b)) ∈ (plOf n adj L).ties)
      exact atom_ok sym irr hl' h1 h2
    | false =>
      show decide (e a = e b) = decide (e' a = e' b)
      by_cases c : e' a = e' b
      · rw [c] at h1
        have : e a = e b := Option.some.inj (h1.symm.trans h2)
        rw [decide_eq_true c, decide_eq_true this]
      · have : e a ≠ e b := fun z => by
          rw [← z] at h2
          obtain ⟨i1, q1⟩ := List.getElem?_eq_some_iff.mp h1
          obtain ⟨i2, q2⟩ := List.getElem?_eq_some_iff.mp h2
          exact c ((List.getElem_inj hnd).mp (q1.trans q2.symm))
        rw [decide_eq_false c, decide_eq_false this]
  | .neg q, L, e, e', hl, hnd, hbd, hf => by
    show (!sem n adj q e) = !hb vs q (plOf n adj L) e'
    rw [sem_hb q L e e' hl hnd hbd hf]
  | .bin o p q, L, e, e', hl, hnd, hbd, hf => by
    have hl1 : p.looks + L.length ≤ 3 := by simp only [Qn.looks] at hl; omega
    have hl2 : q.looks + L.length ≤ 3 := by simp only [Qn.looks] at hl; omega
    have i1 := sem_hb p L e e' hl1 hnd hbd fun a ha => hf a (by simp [Qn.free, ha])
    have i2 := sem_hb q L e e' hl2 hnd hbd fun a ha => hf a (by simp [Qn.free, ha])
    show (if o then sem n adj p e || sem n adj q e else sem n adj p e && sem n adj q e) = if o then hb vs p (plOf n adj L) e' || hb vs q (plOf n adj L) e' else hb vs p (plOf n adj L) e' && hb vs q (plOf n adj L) e'
    rw [i1, i2]
  | .look s a q, L, e, e', hl, hnd, hbd, hf => by
    have hl2 : L.length ≤ 2 := by simp only [Qn.looks] at hl; omega
    have one : ∀ (st : Nat × Pl) (t : Nat) (L' : List Nat), Next n adj L st t L' → sem n adj q (putN e a t) = hb vs q st.2 (putN e' a st.1) := by
      intro st t L' N
      rw [← N.pl]
      refine sem_hb q L' _ _ ?_ N.nd N.bd fun b hb' => ?_
      · have := N.le
        simp only [Qn.looks] at hl
        omega
      · unfold putN
        by_cases c : b = a
        · rw [if_pos c, if_pos c]
          exact N.at_
        · rw [if_neg c, if_neg c]
          refine N.ext _ _ (hf b ?_)
          simp [Qn.free, hb', c]
    have h1 : ∀ t ∈ List.range n, ∃ st ∈ steps vs (plOf n adj L), sem n adj q (putN e a t) = hb vs q st.2 (putN e' a st.1) := fun t ht => by
      obtain ⟨st, hs, L', N⟩ := next_of_thing hvs hl2 hnd hbd (List.mem_range.mp ht)
      exact ⟨st, hs, one _ _ _ N⟩
    have h2 : ∀ st ∈ steps vs (plOf n adj L), ∃ t ∈ List.range n, sem n adj q (putN e a t) = hb vs q st.2 (putN e' a st.1) := fun st hs => by
      obtain ⟨t, L', N⟩ := next_of_step hvs hl2 hnd hbd hs
      exact ⟨t, List.mem_range.mpr N.lt, one _ _ _ N⟩
    cases s with
    | true => exact any_eq_any h1 h2
    | false => exact all_eq_all h1 h2
/-- a closed question with three looks at most is answered by a town as by its views -/
theorem town_views {q : Qn} (hq : q.free = []) (hl : q.looks ≤ 3) (e e' : Nm → Nat) : sem n adj q e = hb vs q .zero e' :=
  sem_hb sym irr hvs q [] e e' (by simpa using hl) List.nodup_nil (by simp) (by rw [hq]; simp)
end

/-! ### copies of a town -/
/-- the ties of copies of n things -/
def adjC (n : Nat) (adj : Nat → Nat → Bool) (s t : Nat) : Bool := decide (s / n = t / n) && adj (s % n) (t % n)
theorem adjC_sym {n : Nat} {adj : Nat → Nat → Bool} (sym : ∀ a b, adj a b = adj b a) (a b : Nat) : adjC n adj a b = adjC n adj b a := by
  unfold adjC
  rw [sym (a % n)]
  congr 1
  exact decide_eq_decide.mpr ⟨Eq.symm, Eq.symm⟩
theorem adjC_irr {n : Nat} {adj : Nat → Nat → Bool} (irr : ∀ a, adj a a = false) (a : Nat) : adjC n adj a a = false := by
  unfold adjC
  rw [irr, Bool.and_false]
/-- the sight on a thing of one's own copy, and on one of another copy -/
def sigSame (n : Nat) (adj : Nat → Nat → Bool) (p q : Nat) : Sgt :=
  (adj p q, [0, 1, 2, 3].filter fun k => decide (k = 0) || (List.range n).any fun r => decide (r ≠ p) && decide (r ≠ q) && decide (code adj p q r = k))
def sigDiff (n : Nat) (adj : Nat → Nat → Bool) (p q : Nat) : Sgt :=
  (false, [0, 1, 2, 3].filter fun k => decide (k = 0) || (decide (k = 2) && (List.range n).any fun r => adj p r) || (decide (k = 1) && (List.range n).any fun r => adj q r))
section
variable {n c : Nat} {adj : Nat → Nat → Bool}
theorem at_copy (hn : 0 < n) {i r : Nat} (hr : r < n) : (n * i + r) / n = i ∧ (n * i + r) % n = r := by
  refine ⟨?_, ?_⟩
  · rw [Nat.mul_add_div hn, Nat.div_eq_of_lt hr, Nat.add_zero]
  · rw [Nat.mul_add_mod, Nat.mod_eq_of_lt hr]
theorem lt_copies {i r : Nat} (hi : i < c) (hr : r < n) : n * i + r < n * c := by
  have h : n * (i + 1) ≤ n * c := Nat.mul_le_mul_left n hi
  rw [Nat.mul_succ] at h
  omega
theorem copy_lt (hn : 0 < n) {a : Nat} (ha : a < n * c) : a / n < c := Nat.div_lt_of_lt_mul ha
theorem eq_of_copy {a b : Nat} (h1 : a / n = b / n) (h2 : a % n = b % n) : a = b := by
  rw [← Nat.div_add_mod a n, ← Nat.div_add_mod b n, h1, h2]
/-- a copy other than two -/
theorem third_copy (i j : Nat) : ∃ k, k < 3 ∧ k ≠ i ∧ k ≠ j := by
  by_cases h0 : 0 ≠ i ∧ 0 ≠ j
  · exact ⟨0, by omega, h0.1, h0.2⟩
  by_cases h1 : 1 ≠ i ∧ 1 ≠ j
  · exact ⟨1, by omega, h1.1, h1.2⟩
  exact ⟨2, by omega, by omega, by omega⟩
variable (hn : 0 < n) (hc : 3 ≤ c)
include hn hc
theorem sight_copies (irr : ∀ a, adj a a = false) {a b : Nat} (ha : a < n * c) (hb : b < n * c) :
    sight (n * c) (adjC n adj) a b = if a / n = b / n then sigSame n adj (a % n) (b % n) else sigDiff n adj (a % n) (b % n) := by
  have hia := copy_lt hn ha
  have hib := copy_lt hn hb
  have ra : a % n < n := Nat.mod_lt _ hn
  have rb : b % n < n := Nat.mod_lt _ hn
  by_cases h : a / n = b / n
  · rw [if_pos h]
    refine Prod.ext ?_ ?_
    · show adjC n adj a b = adj (a % n) (b % n)
      unfold adjC
      rw [decide_eq_true h, Bool.true_and]
    · show lots (n * c) (adjC n adj) a b = _
      unfold lots sigSame
      show List.filter _ _ = List.filter _ _
      refine List.filter_congr fun k _ => ?_
      rw [Bool.eq_iff_iff, List.any_eq_true, Bool.or_eq_true, List.any_eq_true]
      constructor
      · rintro ⟨t, ht, q⟩
        simp only [Bool.and_eq_true, decide_eq_true_eq] at q
        obtain ⟨⟨q1, q2⟩, q3⟩ := q
        by_cases e : t / n = a / n
        · refine .inr ⟨t % n, List.mem_range.mpr (Nat.mod_lt _ hn), ?_⟩
          simp only [Bool.and_eq_true, decide_eq_true_eq]
          refine ⟨⟨fun z => q1 (eq_of_copy e z), fun z => q2 (eq_of_copy (e.trans h) z)⟩, ?_⟩
          rw [← q3]
          unfold code adjC
          rw [decide_eq_true e.symm, decide_eq_true ((e.trans h).symm)]
          simp
        · refine .inl (decide_eq_true ?_)
          rw [← q3]
          unfold code adjC
          rw [decide_eq_false (fun z => e z.symm), decide_eq_false (fun z => e (h.trans z).symm)]
          rfl
      · rintro (q | ⟨r, hr, q⟩)
        · have q0 : k = 0 := of_decide_eq_true q
          obtain ⟨i, hi, h1, h2⟩ := third_copy (a / n) (b / n)
          obtain ⟨e1, e2⟩ := at_copy hn (i := i) ra
          refine ⟨n * i + a % n, List.mem_range.mpr (lt_copies (Nat.lt_of_lt_of_le hi hc) ra), ?_⟩
          simp only [Bool.and_eq_true, decide_eq_true_eq]
          refine ⟨⟨fun z => h1 (by rw [← z, e1]), fun z => h2 (by rw [← z, e1])⟩, ?_⟩
          rw [q0]
          unfold code adjC
          rw [e1, decide_eq_false (Ne.symm h1), decide_eq_false (Ne.symm h2)]
          rfl
        · have hr' := List.mem_range.mp hr
          simp only [Bool.and_eq_true, decide_eq_true_eq] at q
          obtain ⟨⟨q1, q2⟩, q3⟩ := q
          obtain ⟨e1, e2⟩ := at_copy hn (i := a / n) hr'
          refine ⟨n * (a / n) + r, List.mem_range.mpr (lt_copies hia hr'), ?_⟩
          simp only [Bool.and_eq_true, decide_eq_true_eq]
          refine ⟨⟨fun z => q1 (by rw [← z, e2]), fun z => q2 (by rw [← z, e2])⟩, ?_⟩
          rw [← q3]
          unfold code adjC
          rw [e1, e2, decide_eq_true rfl, decide_eq_true h.symm]
          simp
  · rw [if_neg h]
    refine Prod.ext ?_ ?_
    · show adjC n adj a b = false
      unfold adjC
      rw [decide_eq_false h, Bool.false_and]
    · show lots (n * c) (adjC n adj) a b = _
      unfold lots sigDiff
      show List.filter _ _ = List.filter _ _
      refine List.filter_congr fun k _ => ?_
      rw [Bool.eq_iff_iff, List.any_eq_true]
      simp only [Bool.or_eq_true, Bool.and_eq_true, List.any_eq_true, decide_eq_true_eq]
      constructor
      · rintro ⟨t, ht, ⟨q1, q2⟩, q3⟩
        have rt : t % n < n := Nat.mod_lt _ hn
        by_cases e : a / n = t / n
        · have e' : ¬ b / n = t / n := fun z => h (e.trans z.symm)
          unfold code adjC at q3
          rw [decide_eq_true e, decide_eq_false e'] at q3
          cases g : adj (a % n) (t % n) with
          | true =>
            rw [g] at q3
            exact .inl (.inr ⟨by simpa using q3.symm, t % n, List.mem_range.mpr rt, g⟩)
          | false =>
            rw [g] at q3
            exact .inl (.inl (by simpa using q3.symm))
        · by_cases e' : b / n = t / n
          · unfold code adjC at q3
            rw [decide_eq_false e, decide_eq_true e'] at q3
            cases g : adj (b % n) (t % n) with
            | true =>
              rw [g] at q3
              exact .inr ⟨by simpa using q3.symm, t % n, List.mem_range.mpr rt, g⟩
            | false =>
              rw [g] at q3
              exact .inl (.inl (by simpa using q3.symm))
          · unfold code adjC at q3
            rw [decide_eq_false e, decide_eq_false e'] at q3
            exact .inl (.inl (by simpa using q3.symm))
      · rintro ((q | ⟨q, r, hr, g⟩) | ⟨q, r, hr, g⟩)
        · obtain ⟨i, hi, h1, h2⟩ := third_copy (a / n) (b / n)
          obtain ⟨e1, e2⟩ := at_copy hn (i := i) ra
          refine ⟨n * i + a % n, List.mem_range.mpr (lt_copies (Nat.lt_of_lt_of_le hi hc) ra), ⟨fun z => h1 (by rw [← z, e1]), fun z => h2 (by rw [← z, e1])⟩, ?_⟩
          rw [q]
          unfold code adjC
          rw [e1, decide_eq_false (Ne.symm h1), decide_eq_false (Ne.symm h2)]
          rfl
        · have hr' := List.mem_range.mp hr
          obtain ⟨e1, e2⟩ := at_copy hn (i := a / n) hr'
          refine ⟨n * (a / n) + r, List.mem_range.mpr (lt_copies hia hr'), ⟨fun z => ?_, fun z => ?_⟩, ?_⟩
          · have : r = a % n := by rw [← z, e2]
            rw [← this, irr] at g
            cases g
          · exact h (by rw [← z, e1])
          · unfold code adjC
            rw [e1, e2, decide_eq_true rfl, decide_eq_false (fun z => h z.symm), g, q]
            rfl
        · have hr' := List.mem_range.mp hr
          obtain ⟨e1, e2⟩ := at_copy hn (i := b / n) hr'
          refine ⟨n * (b / n) + r, List.mem_range.mpr (lt_copies hib hr'), ⟨fun z => ?_, fun z => ?_⟩, ?_⟩
          · exact h (by rw [← z, e1])
          · have : r = b % n := by rw [← z, e2]
            rw [← this, irr] at g
            cases g
          · unfold code adjC
            rw [e1, e2, decide_eq_true rfl, decide_eq_false h, g, q]
            rfl
/-- the view of a thing in copies, the number of copies out of sight -/
theorem mem_view_copies (irr : ∀ a, adj a a = false) {a : Nat} (ha : a < n * c) {s : Sgt} :
    s ∈ view (n * c) (adjC n adj) a ↔ (∃ q, q < n ∧ q ≠ a % n ∧ s = sigSame n adj (a % n) q) ∨ ∃ q, q < n ∧ s = sigDiff n adj (a % n) q := by
  have hia := copy_lt hn ha
  rw [mem_view]
  constructor
  · rintro ⟨b, hb, hne, e⟩
    rw [sight_copies hn hc irr ha hb] at e
    by_cases h : a / n = b / n
    · rw [if_pos h] at e
      exact .inl ⟨b % n, Nat.mod_lt _ hn, fun z => hne (eq_of_copy h.symm z), e.symm⟩
    · rw [if_neg h] at e
      exact .inr ⟨b % n, Nat.mod_lt _ hn, e.symm⟩
  · rintro (⟨q, hq, hne, rfl⟩ | ⟨q, hq, rfl⟩)
    · obtain ⟨e1, e2⟩ := at_copy hn (i := a / n) hq
      have hb := lt_copies hia hq
      refine ⟨n * (a / n) + q, hb, fun z => hne (by rw [← z, e2]), ?_⟩
      rw [sight_copies hn hc irr ha hb, e1, e2, if_pos rfl]
    · obtain ⟨i, hi, h1, _⟩ := third_copy (a / n) (a / n)
      obtain ⟨e1, e2⟩ := at_copy hn (i := i) hq
      have hb := lt_copies (Nat.lt_of_lt_of_le hi hc) hq
      refine ⟨n * i + q, hb, fun z => h1 (by rw [← z, e1]), ?_⟩
      rw [sight_copies hn hc irr ha hb, e1, e2, if_neg (Ne.symm h1)]
end
theorem view_copies {n c d : Nat} {adj : Nat → Nat → Bool} (hn : 0 < n) (hc : 3 ≤ c) (hd : 3 ≤ d) (irr : ∀ a, adj a a = false) {a b : Nat} (ha : a < n * c) (hb : b < n * d) (e : a % n = b % n) :
    view (n * c) (adjC n adj) a = view (n * d) (adjC n adj) b := by
  have key : ∀ s : Sgt, s ∈ view (n * c) (adjC n adj) a ↔ s ∈ view (n * d) (adjC n adj) b := fun s => by
    rw [mem_view_copies hn hc irr ha, mem_view_copies hn hd irr hb, e]
  unfold view at key ⊢
  refine List.filter_congr fun s hs => ?_
  have k := key s
  rw [List.mem_filter, List.mem_filter] at k
  rw [Bool.eq_iff_iff]
  exact ⟨fun z => (k.mp ⟨hs, z⟩).2, fun z => (k.mpr ⟨hs, z⟩).2⟩
/-- three copies of a town and four have the same views -/
theorem views_copies {n c d : Nat} {adj : Nat → Nat → Bool} (hn : 0 < n) (hc : 3 ≤ c) (hd : 3 ≤ d) (irr : ∀ a, adj a a = false) (v : Vw) :
    (∃ a, a < n * c ∧ v = view (n * c) (adjC n adj) a) ↔ ∃ b, b < n * d ∧ v = view (n * d) (adjC n adj) b := by
  have one : ∀ {c d : Nat}, 3 ≤ c → 3 ≤ d → (∃ a, a < n * c ∧ v = view (n * c) (adjC n adj) a) → ∃ b, b < n * d ∧ v = view (n * d) (adjC n adj) b := by
    rintro c d hc hd ⟨a, ha, e⟩
    have ra : a % n < n := Nat.mod_lt _ hn
    have hb : a % n < n * d := Nat.lt_of_lt_of_le ra (Nat.le_mul_of_pos_right n (by omega))
    exact ⟨a % n, hb, e.trans (view_copies hn hc hd irr ha hb (Nat.mod_mod _ _).symm)⟩
  exact ⟨one hc hd, one hd hc⟩

/-! ### lists that ascend are told by what is in them -/
theorem asc_unique {α : Type} {R : α → α → Prop} (irr : ∀ a, ¬ R a a) (tr : ∀ a b c, R a b → R b c → R a c) : ∀ {l m : List α}, l.Pairwise R → m.Pairwise R → (∀ a, a ∈ l ↔ a ∈ m) → l = m
  | [], [], _, _, _ => rfl
  | [], b :: m, _, _, h => absurd ((h b).mpr List.mem_cons_self) (by simp)
  | a :: l, [], _, _, h => absurd ((h a).mp List.mem_cons_self) (by simp)
  | a :: l, b :: m, hl, hm, h => by
    obtain ⟨a1, a2⟩ := List.pairwise_cons.mp hl
    obtain ⟨b1, b2⟩ := List.pairwise_cons.mp hm
    have e : a = b := by
      rcases List.mem_cons.mp ((h a).mp List.mem_cons_self) with e | e
      · exact e
      · rcases List.mem_cons.mp ((h b).mpr List.mem_cons_self) with e2 | e2
        · exact e2.symm
        · exact absurd (tr _ _ _ (b1 a e) (a1 b e2)) (irr b)
    subst e
    refine congrArg (a :: ·) (asc_unique irr tr a2 b2 fun x => ?_)
    have hx := h x
    constructor
    · intro hl'
      rcases List.mem_cons.mp (hx.mp (List.mem_cons_of_mem _ hl')) with z | z
      · exact absurd (z ▸ a1 x hl') (irr a)
      · exact z
    · intro hm'
      rcases List.mem_cons.mp (hx.mpr (List.mem_cons_of_mem _ hm')) with z | z
      · exact absurd (z ▸ b1 x hm') (irr a)
      · exact z
end K61

end

section
set_option linter.all false
set_option maxRecDepth 100000
/-! K61, rules 1: heaps, comprehensions and loops that leave all as it was. -/
namespace K61
open PySem PySem.Spec PyProof.Rows L2

/-! ### heaps -/
theorem same_new {H : Hp} {p : Addr} {o : HO} (h : H p = none) : Same H (upd H p o) := fun b x e => by
  rw [upd_ne (ne_of_none e h)]
  exact e
theorem Same.tr {H H1 H2 : Hp} (a : Same H H1) (b : Same H1 H2) : Same H H2 := a.trans b
theorem Same.seqT {K : PySem.W.Frag} {H H' : Hp} {a : Addr} {xs : List V} (e : Same H H') (h : SqT K H a xs) : SqT K H' a xs := by
  rcases h with (h | ⟨o, h⟩) | h
  · exact .inl (.inl (e _ _ h))
  · exact .inl (.inr ⟨o, e _ _ h⟩)
  · exact .inr h
/-- all but what stands at p is as it was -/
def SameBut (p : Addr) (H H' : Hp) : Prop := ∀ b o, b ≠ p → H b = some o → H' b = some o
theorem SameBut.refl (p : Addr) (H : Hp) : SameBut p H H := fun _ _ _ h => h
theorem SameBut.trans {p : Addr} {H H1 H2 : Hp} (a : SameBut p H H1) (b : SameBut p H1 H2) : SameBut p H H2 := fun c o n h => b c o n (a c o n h)
theorem Same.but {p : Addr} {H H1 : Hp} (a : Same H H1) : SameBut p H H1 := fun c o _ h => a c o h
theorem SameBut.upd {p : Addr} {H : Hp} {o : HO} : SameBut p H (upd H p o) := fun b x n h => by
  rw [upd_ne n]
  exact h
/-- a heap in which what is at p is new behaves as one with all kept -/
theorem SameBut.same {p : Addr} {H H1 H2 : Hp} (h : H p = none) (a : Same H H1) (b : SameBut p H1 H2) : Same H H2 := fun c o e => b c o (ne_of_none e h) (a c o e)
/-- the tuples that stand -/
def Tups (H H' : Hp) : Prop := ∀ b xs, H b = some (.tup xs) → H' b = some (.tup xs)
theorem Tups.refl (H : Hp) : Tups H H := fun _ _ h => h
theorem Tups.trans {H H1 H2 : Hp} (a : Tups H H1) (b : Tups H1 H2) : Tups H H2 := fun c o h => b c o (a c o h)
theorem Same.tups {H H' : Hp} (a : Same H H') : Tups H H' := fun _ _ h => a _ _ h
theorem SameBut.tups {p : Addr} {H H' : Hp} {xs : List V} (a : SameBut p H H') (h : H p = some (.lst xs)) : Tups H H' := fun b ys e => a b _ (ne_of e h (by intro z; cases z)) e
theorem upd_tups {p : Addr} {H : Hp} {o o' : HO} (h : H p = some o') (n : ∀ xs, o' ≠ .tup xs) : Tups H (upd H p o) := fun b xs e => by
  rw [upd_ne (ne_of e h fun z => n xs z.symm)]
  exact e
theorem small {n m : Nat} (h : n ≤ m) (hm : m ≤ 10000 := by decide) : n ≤ sizeLine := Nat.le_trans h (Nat.le_trans hm (by decide))
theorem smallLt {n m : Nat} (h : n ≤ m) (hm : m ≤ 10000 := by decide) : n < sizeLine := Nat.lt_of_le_of_lt h (Nat.lt_of_le_of_lt hm (by decide))
theorem ite_yes {A B : Prop} {b : Bool} (hb : b = true) (h : A) : if b = true then A else B := by rw [if_pos hb]; exact h
theorem ite_no {A B : Prop} {b : Bool} (hb : b = false) (h : B) : if b = true then A else B := by rw [hb, if_neg Bool.false_ne_true]; exact h
theorem atN {xs : List V} {i : Nat} {v : V} (h : xs[i]? = some v) : atI xs (i : Int) = some v := atI_nat h

/-! ### a comprehension whose element leaves all as it was (it may make new things) -/
section
variable {J : It} {n : Nat} {G : Hp → Prop} {Y : Nat → Hp → V → Hp → Prop} {g : TG} {tt : TT} {te : TE} {vs : List Nat} {σ : L2.St} {H1 : Hp} {D : Addr} {Qd : Hp → Prop}
/-- what a comprehension asks behind its iterable -/
def LcAsk (J : It) (g : TG) (tt : TT) (te : TE) (vs : List Nat) (σ : L2.St) (H1 : Hp) (D : Addr) (Qd : Hp → Prop) : Prop :=
  ∃ W : Nat → Nat → Hp → Prop, (∃ m, W 0 m (upd H1 D (.lst []))) ∧
    ∀ i m H, W i m H → (J.stop i H ∧ Qd H) ∨
      (J.go i H ∧ ∃ Nx : Hp → Prop, (∀ H', Nx H' → ∃ m', m' < m ∧ W (i + 1) m' H') ∧
        ∀ x H', J.yld i H x H' → g x (wipe σ vs) H' fun σ2 H2 => wipe σ2 vs = wipe σ vs ∧ tt σ2 H2 fun b H3 =>
          if b = true then te σ2 H3 fun y H4 => ∃ acc, H4 D = some (.lst acc) ∧ acc.length < sizeLine ∧ Nx (upd H4 D (.lst (acc ++ [y]))) else Nx H3)
/-- R i y H: y may stand for the i-th item in H -/
theorem lc_rel (w : Walk J n G Y) (hD : H1 D = none) (hn : n ≤ 9000) (R : Nat → V → Hp → Prop) (hR : ∀ i y H H' zs, H D = some (.lst zs) → SameBut D H H' → R i y H → R i y H') (hG : ∀ H, Same H1 H → G H)
    (hs : ∀ i x H H' (ys : List V) (Kk : VK), i < n → Same H1 H → H D = some (.lst ys) → Y i H x H' → (∀ y H'', Same H H'' → R i y H'' → Kk y H'') → g x (wipe σ vs) H' fun σ2 H2 => wipe σ2 vs = wipe σ vs ∧ te σ2 H2 Kk)
    (hd : ∀ (H : Hp) (ys : List V), Same H1 H → H D = some (.lst ys) → ys.length = n → (∀ i y, ys[i]? = some y → R i y H) → Qd H) :
    LcAsk J g tYes te vs σ H1 D Qd := by
  refine lc_it w (tt := tYes) (fun i H => Same H1 H ∧ ∃ ys : List V, H D = some (.lst ys) ∧ ys.length = i ∧ ∀ j y, ys[j]? = some y → R j y H)
    ⟨same_new hD, [], upd_same, rfl, fun j y e => by simp at e⟩ (fun i H _ p => hG H p.1) (fun i x H H' hi p y => ?_) (fun H p => ?_)
  · obtain ⟨sm, ys, hy, hl, hr⟩ := p
    refine hs i x H H' ys _ hi sm hy y (fun y' H4 s4 ry => ?_)
    refine ⟨ys, s4 _ _ hy, smallLt (m := 9000) (by omega), SameBut.same hD (sm.trans s4) .upd, ys ++ [y'], upd_same, by simp [hl], fun j z e => ?_⟩
    refine hR j z H4 _ ys (s4 _ _ hy) .upd ?_
    by_cases hj : j < ys.length
    · rw [List.getElem?_append_left hj] at e
      exact hR j z H H4 ys hy (Same.but s4) (hr j z e)
    · have hj' : j = ys.length := by
        have := (List.getElem?_eq_some_iff.mp e).1
        simp at this
        omega
      subst hj'
      rw [List.getElem?_append_right (Nat.le_refl _)] at e
      simp at e
      subst e
      rw [hl]
      exact ry
  · obtain ⟨sm, ys, hy, hl, hr⟩ := p
    exact hd H ys sm hy hl hr
/-- the i-th value is told ahead -/
theorem lc_told (w : Walk J n G Y) (hD : H1 D = none) (hn : n ≤ 9000) (out : List V) (ho : out.length = n) (hG : ∀ H, Same H1 H → G H)
    (hs : ∀ i x y H H' (ys : List V) (Kk : VK), out[i]? = some y → Same H1 H → H D = some (.lst ys) → Y i H x H' → (∀ H'', Same H H'' → Kk y H'') → g x (wipe σ vs) H' fun σ2 H2 => wipe σ2 vs = wipe σ vs ∧ te σ2 H2 Kk)
    (hd : ∀ H : Hp, Same H1 H → H D = some (.lst out) → Qd H) :
    LcAsk J g tYes te vs σ H1 D Qd := by
  refine lc_rel w hD hn (fun i y _ => out[i]? = some y) (fun _ _ _ _ _ _ _ h => h) hG (fun i x H H' ys Kk hi sm hy y hk => ?_) fun H ys sm hy hl hr => hd H sm ?_
  · have hi' : i < out.length := by omega
    exact hs i x out[i] H H' ys Kk (List.getElem?_eq_getElem hi') sm hy y fun H'' s => hk _ H'' s (List.getElem?_eq_getElem hi')
  · have e : ys = out := by
      refine List.ext_getElem? fun i => ?_
      by_cases h : i < n
      · have h1 : i < ys.length := by omega
        rw [hr i ys[i] (List.getElem?_eq_getElem h1), List.getElem?_eq_getElem h1]
      · rw [List.getElem?_eq_none (by omega), List.getElem?_eq_none (by omega)]
    rw [← e]
    exact hy
/-- with one test: what is kept is told by the item's place -/
theorem lc_keep (w : Walk J n G Y) (hD : H1 D = none) (hn : n ≤ 9000) (keep : Nat → Bool) (val : Nat → V) (hG : ∀ H, Same H1 H → G H)
    (hs : ∀ i x H H' (ys : List V) (Kn : Hp → Prop) (Kk : VK), i < n → Same H1 H → H D = some (.lst ys) → Y i H x H' → (∀ H'', Same H H'' → keep i = true → Kk (val i) H'') → (∀ H'', Same H H'' → keep i = false → Kn H'') →
      g x (wipe σ vs) H' fun σ2 H2 => wipe σ2 vs = wipe σ vs ∧ tt σ2 H2 fun b H3 => if b = true then te σ2 H3 Kk else Kn H3)
    (hd : ∀ H : Hp, Same H1 H → H D = some (.lst (((List.range n).filter keep).map val)) → Qd H) :
    LcAsk J g tt te vs σ H1 D Qd := by
  refine lc_it w (fun i H => Same H1 H ∧ H D = some (.lst (((List.range i).filter keep).map val)))
    ⟨same_new hD, upd_same⟩ (fun i H _ p => hG H p.1) (fun i x H H' hi p y => ?_) (fun H p => hd H p.1 p.2)
  obtain ⟨sm, hy⟩ := p
  refine hs i x H H' _ _ _ hi sm hy y (fun H4 s4 hk => ?_) (fun H4 s4 hk => ?_)
  · refine ⟨_, s4 _ _ hy, ?_, SameBut.same hD (sm.trans s4) .upd, ?_⟩
    · rw [List.length_map]
      have h := List.length_filter_le keep (List.range i)
      rw [List.length_range] at h
      exact smallLt (m := 9000) (by omega)
    · rw [upd_same, List.range_succ, List.filter_append, List.map_append, List.filter_cons, hk]
      rfl
  · refine ⟨sm.trans s4, ?_⟩
    rw [s4 _ _ hy, List.range_succ, List.filter_append, List.filter_cons, hk]
    simp
/-- a for that leaves all as it was and may end the def -/
theorem for_same (w : Walk J n G Y) {g : TG} {tb : TS} {E : Ends} {σ : L2.St} {H : Hp} (Pv : Nat → L2.St → Prop) (h0 : Pv 0 σ) (hG : ∀ H', Same H H' → G H')
    (hs : ∀ i x σ' H' H'' (N : L2.St → Hp → Prop), i < n → Same H H' → Pv i σ' → Y i H' x H'' → (∀ σ3 H3, Same H H3 → Pv (i + 1) σ3 → N σ3 H3) → g x σ' H'' fun σ2 H2 => tb { E with nx := N, ct := N, bk := E.nx } σ2 H2)
    (hd : ∀ σ' H', Same H H' → Pv n σ' → E.nx σ' H') :
    ∃ W : Nat → Nat → L2.St → Hp → Prop, (∃ m, W 0 m σ H) ∧
      ∀ i m σ H, W i m σ H → (J.stop i H ∧ E.nx σ H) ∨
        (J.go i H ∧ ∃ N : L2.St → Hp → Prop, (∀ σ' H', N σ' H' → ∃ m', m' < m ∧ W (i + 1) m' σ' H') ∧
          ∀ x H', J.yld i H x H' → g x σ H' fun σ2 H2 => tb { E with nx := N, ct := N, bk := E.nx } σ2 H2) :=
  for_it w (fun i σ' H' => Same H H' ∧ Pv i σ') ⟨Same.refl H, h0⟩ (fun _ _ H' _ p => hG H' p.1) (fun i x σ' H' H'' hi p y => hs i x σ' H' H'' _ hi p.1 p.2 y fun _ _ s q => ⟨s, q⟩) fun σ' H' p => hd σ' H' p.1 p.2
end
end K61

end

section
set_option linter.all false
set_option maxRecDepth 100000
/-! K61, sets 1: a set's table, for masks up to 511. -/
namespace K61
open PySem PySem.Spec PyProof.Rows L2

/-- from each hash each slot begins a run soon -/
structure Msk (m : Nat) : Prop where
  one : m = 7 ∨ m = 31 ∨ m = 127 ∨ m = 511
  met : ∀ (h : Int) (j : Nat), j ≤ m → ∃ n, n ≤ m + 12 ∧ runI m (SetTable.bits h) n = j
theorem Msk.odd {m : Nat} (M : Msk m) : m % 2 = 1 := by rcases M.one with e | e | e | e <;> subst e <;> rfl
theorem Msk.le {m : Nat} (M : Msk m) : m ≤ 511 := by rcases M.one with e | e | e | e <;> omega
theorem msk_of {m : Nat} (hm : MaskOk m) : Msk m where
  one := by rcases hm with e | e | e <;> omega
  met := fun h j hj => run_meets hm h hj
/-- the round of i -> 5 i + 1 by 512 -/
def orb : Nat → Nat → List Nat
  | 0, _ => []
  | n + 1, x => x :: orb n ((x * 5 + 1) % 512)
theorem orb_mem : ∀ (n x j : Nat), j ∈ orb n x → ∃ k, k < n ∧ lcgI 511 x k = j
  | 0, _, _, h => by cases h
  | n + 1, x, j, h => by
    rcases List.mem_cons.mp h with e | h
    · exact ⟨0, Nat.succ_pos _, e.symm⟩
    · obtain ⟨k, hk, e⟩ := orb_mem n ((x * 5 + 1) % 512) j h
      refine ⟨k + 1, Nat.succ_lt_succ hk, ?_⟩
      have sh : ∀ (k x : Nat), lcgI 511 x (k + 1) = lcgI 511 ((x * 5 + 1) % 512) k := by
        intro k
        induction k with
        | zero => intro x; rfl
        | succ k ih =>
          intro x
          show (lcgI 511 x (k + 1) * 5 + 1) % (511 + 1) = (lcgI 511 ((x * 5 + 1) % 512) k * 5 + 1) % (511 + 1)
          rw [ih]
      rw [sh]
      exact e
theorem orb_all : ((List.range 512).all fun j => (orb 512 0).contains j) = true := by decide +kernel
theorem orb_round : lcgI 511 0 512 = 0 := by decide +kernel
theorem lcg_add (m x : Nat) : ∀ a b : Nat, lcgI m (lcgI m x a) b = lcgI m x (a + b)
  | a, 0 => rfl
  | a, b + 1 => by
    show (lcgI m (lcgI m x a) b * 5 + 1) % (m + 1) = (lcgI m x (a + b) * 5 + 1) % (m + 1)
    rw [lcg_add m x a b]
theorem all511 {i j : Nat} (hi : i ≤ 511) (hj : j ≤ 511) : ∃ k, k ≤ 511 ∧ lcgI 511 i k = j := by
  have ex : ∀ j, j ≤ 511 → ∃ b, b < 512 ∧ lcgI 511 0 b = j := fun j hj =>
    orb_mem 512 0 j (List.contains_iff_mem.mp (List.all_eq_true.mp orb_all j (List.mem_range.mpr (Nat.lt_succ_of_le hj))))
  obtain ⟨a, ha, ea⟩ := ex i hi
  obtain ⟨b, hb, eb⟩ := ex j hj
  by_cases c : a ≤ b
  · refine ⟨b - a, by omega, ?_⟩
    rw [← ea, lcg_add, show a + (b - a) = b by omega, eb]
  · refine ⟨b + 512 - a, by omega, ?_⟩
    rw [← ea, lcg_add, show a + (b + 512 - a) = 512 + b by omega, ← lcg_add, orb_round, eb]
theorem msk_511 : Msk 511 where
  one := .inr (.inr (.inr rfl))
  met := fun h j hj => by
    obtain ⟨k, hk, e⟩ := all511 (runI_le 511 (SetTable.bits h) 12) hj
    exact ⟨12 + k, by omega, by rw [runI_tail (bits_lt h)]; exact e⟩
theorem msk_7 : Msk 7 := msk_of (.inl rfl)
theorem msk_31 : Msk 31 := msk_of (.inr (.inl rfl))
theorem msk_127 : Msk 127 := msk_of (.inr (.inr rfl))
theorem way_in {m : Nat} {h : Int} {k : Nat} : way m h k ≤ m := by
  have hi : SetTable.bits h % (m + 1) ≤ m := Nat.le_of_lt_succ (Nat.mod_lt _ (Nat.succ_pos _))
  have r := runEnd_bd hi
  have q := nth_in (m := m) k (runAt m (SetTable.bits h % (m + 1)) (SetTable.bits h)) (by
    show SetTable.bits h % (m + 1) + (SetTable.runEnd m (SetTable.bits h % (m + 1)) - SetTable.bits h % (m + 1)) ≤ m
    omega)
  exact Nat.le_trans (Nat.le_add_right _ _) q
/-- each slot stands on the way, within the bound of a search -/
theorem Msk.slot {m : Nat} (M : Msk m) (h : Int) {j : Nat} (hj : j ≤ m) : ∃ k, k < 10 * SetTable.turns m ∧ way m h k = j := by
  obtain ⟨n, hn, e⟩ := M.met h j hj
  obtain ⟨k, hk, e2⟩ := run_nth m (SetTable.bits h) n
  refine ⟨k, by unfold SetTable.turns; omega, ?_⟩
  show (nth m (runAt m (SetTable.bits h % (m + 1)) (SetTable.bits h)) k).j = j
  rw [e2]
  exact e

/-- a table that finds its elements again: the hashes of its elements by place -/
structure Tab (t : SetTable) (hs : List Int) : Prop where
  asc : Ris t.place.toList
  dum : t.dummies = #[]
  many : t.place.size = hs.length
  msk : Msk t.mask
  bnd : ∀ x ∈ t.place.toList, x ≤ t.mask
  ends : ∀ (i : Nat) (h : Int) (j : Nat), hs[i]? = some h → t.place.toList[i]? = some j → ∃ k, way t.mask h k = j ∧ ∀ k', k' < k → way t.mask h k' ∈ t.place.toList
section
variable {t : SetTable} {hs : List Int}
theorem Tab.len (T : Tab t hs) : t.place.toList.length = hs.length := by rw [Array.length_toList]; exact T.many
/-- the first empty slot of a way -/
theorem Tab.gap (T : Tab t hs) (hl : hs.length ≤ t.mask) (h : Int) : ∃ K, K < 10 * SetTable.turns t.mask ∧ way t.mask h K ∉ t.place.toList ∧ ∀ k, k < K → way t.mask h k ∈ t.place.toList := by
  obtain ⟨j, hj, hn⟩ := st_missing t.place.toList (t.mask + 1) (by rw [T.len]; omega)
  obtain ⟨k, hk, e⟩ := T.msk.slot h (Nat.le_of_lt_succ hj)
  obtain ⟨K, h1, h2, h3⟩ := st_least (p := fun k => way t.mask h k ∉ t.place.toList) k (by show way t.mask h k ∉ _; rw [e]; exact hn)
  exact ⟨K, Nat.lt_of_le_of_lt h1 hk, h2, fun k' hk' => Classical.not_not.mp (h3 k' hk')⟩
/-- an element stands on the way of its hash, ahead of the first empty slot -/
theorem Tab.ahead (T : Tab t hs) {h : Int} {K i j : Nat} (hK : way t.mask h K ∉ t.place.toList) (hi : hs[i]? = some h) (hj : t.place.toList[i]? = some j) : ∃ k, k < K ∧ way t.mask h k = j := by
  obtain ⟨k, e, hb⟩ := T.ends i h j hi hj
  refine ⟨k, ?_, e⟩
  rcases Nat.lt_trichotomy k K with c | c | c
  · exact c
  · subst c
    rw [e] at hK
    exact absurd (List.mem_of_getElem? hj) hK
  · exact absurd (hb K c) hK
/-- where one is put in, among the others -/
abbrev spot (t : SetTable) (h : Int) (K : Nat) : Nat := SetTable.below t.place (way t.mask h K)
/-- one more -/
theorem Tab.grow (T : Tab t hs) {h : Int} {K : Nat} (hK : way t.mask h K ∉ t.place.toList) (hb : ∀ k, k < K → way t.mask h k ∈ t.place.toList) :
    spot t h K ≤ hs.length ∧ Tab (t.put (way t.mask h K)).1 (hs.take (spot t h K) ++ h :: hs.drop (spot t h K)) ∧ (t.put (way t.mask h K)).1.fill = hs.length + 1 := by
  obtain ⟨c1, _, _⟩ := below_cut T.asc (way t.mask h K)
  have hpl : spot t h K ≤ t.place.toList.length := by rw [Array.length_toList]; exact c1
  have hph : spot t h K ≤ hs.length := by rw [← T.many]; exact c1
  have hno : t.place[SetTable.below t.place (way t.mask h K)]? ≠ some (way t.mask h K) := fun e => hK (List.mem_of_getElem? (by rw [Array.getElem?_toList]; exact e))
  have pl := put_place t (way t.mask h K)
  have sz : (t.put (way t.mask h K)).1.place.size = hs.length + 1 := by rw [← Array.length_toList, pl, len_ins _ hpl, T.len]
  have up : ∀ {x : Nat}, x ∈ t.place.toList → x ∈ (t.put (way t.mask h K)).1.place.toList := fun {x} hx => by
    rw [pl]
    exact mem_ins.2 (.inr hx)
  refine ⟨hph, ⟨ris_insert T.asc hno, put_dm T.dum _, by rw [len_ins _ hph]; exact sz, T.msk, fun x hx => ?_, fun i h' j' h1 h2 => ?_⟩, ?_⟩
  · rw [pl] at hx
    rcases mem_ins.1 hx with z | z
    · rw [z]; exact way_in
    · exact T.bnd x z
  · rw [tins_get hs hph] at h1
    rw [pl, tins_get _ hpl] at h2
    have old : ∀ i, hs[i]? = some h' → t.place.toList[i]? = some j' → ∃ k, way t.mask h' k = j' ∧ ∀ k', k' < k → way t.mask h' k' ∈ (t.put (way t.mask h K)).1.place.toList := fun i a b => by
      obtain ⟨k, e, z⟩ := T.ends i h' j' a b
      exact ⟨k, e, fun k' hk' => up (z k' hk')⟩
    by_cases c : i < spot t h K
    · rw [if_pos c] at h1 h2
      exact old i h1 h2
    · rw [if_neg c] at h1 h2
      by_cases d : i = spot t h K
      · rw [if_pos d] at h1 h2
        injection h1 with h1
        injection h2 with h2
        subst h1; subst h2
        exact ⟨K, rfl, fun k' hk' => up (hb k' hk')⟩
      · rw [if_neg d] at h1 h2
        exact old (i - 1) h1 h2
  · show (t.put (way t.mask h K)).1.place.size + (t.put (way t.mask h K)).1.dummies.size = hs.length + 1
    rw [sz, put_dm T.dum]
    rfl
end

/-! ### all laid anew -/
theorem find_free {m : Nat} (M : Msk m) (owner : Array (Option Nat)) (h : Int) {j : Nat} (hj : j ≤ m) (hf : oAt owner j = none) :
    ∃ K, SetTable.layClean.free m owner (SetTable.turns m) (SetTable.bits h % (m + 1)) (SetTable.bits h) = some (way m h K) ∧ oAt owner (way m h K) = none ∧ ∀ k, k < K → oAt owner (way m h k) ≠ none := by
  obtain ⟨n, hn, e⟩ := M.met h j hj
  have hw : way m h (off m (SetTable.bits h % (m + 1)) (SetTable.bits h) n) = j := by
    show (nth m (runAt m (SetTable.bits h % (m + 1)) (SetTable.bits h)) (off m (SetTable.bits h % (m + 1)) (SetTable.bits h) n)).j = j
    rw [nth_off, itL_run]
    exact e
  obtain ⟨K, k1, k2, k3⟩ := st_least (p := fun k => oAt owner (way m h k) = none) _ (by rw [hw]; exact hf)
  refine ⟨K, free_spec m owner (SetTable.turns m) n _ _ K (by unfold SetTable.turns; omega) k1 (fun k hk => ?_) (by rw [show oAt owner (nth m (runAt m (SetTable.bits h % (m + 1)) (SetTable.bits h)) K).j = none from k2]; rfl), k2, k3⟩
  cases z : oAt owner (nth m (runAt m (SetTable.bits h % (m + 1)) (SetTable.bits h)) k).j with
  | none => exact absurd z (k3 k hk)
  | some _ => rfl
theorem own_more {m : Nat} (M : Msk m) {done : List Int} {owner : Array (Option Nat)} (W : L2.Own m done owner) (hl : done.length ≤ m) (h : Int) :
    ∃ j, SetTable.layClean.free m owner (SetTable.turns m) (SetTable.bits h % (m + 1)) (SetTable.bits h) = some j ∧ L2.Own m (done ++ [h]) (owner.setIfInBounds j (some done.length)) := by
  obtain ⟨ps, hps, hin⟩ := W.ps
  obtain ⟨j0, h0, hn0⟩ := st_missing ps (m + 1) (by omega)
  have hj0 : oAt owner j0 = none := by
    cases z : oAt owner j0 with
    | none => rfl
    | some k => exact absurd (hin j0 (Nat.le_of_lt_succ h0) (by rw [z]; exact fun e => nomatch e)) hn0
  obtain ⟨K, e1, e2, e3⟩ := find_free M owner h (Nat.le_of_lt_succ h0) hj0
  generalize hj : way m h K = j at e1 e2
  have hjm : j ≤ m := hj ▸ way_in
  have self : oAt (owner.setIfInBounds j (some done.length)) j = some done.length := oAt_set_self _ (by rw [W.sz]; exact Nat.lt_succ_of_le hjm)
  have keepN : ∀ {i : Nat}, oAt owner i ≠ none → oAt (owner.setIfInBounds j (some done.length)) i ≠ none := fun {i} hi => by
    by_cases c : i = j
    · subst c; exact absurd e2 hi
    · rw [oAt_set_ne _ c]; exact hi
  refine ⟨j, e1, by rw [Array.size_setIfInBounds]; exact W.sz, fun i k hi e => ?_, fun k hk => ?_, ⟨j :: ps, by simp [hps], fun i hi e => ?_⟩⟩
  · by_cases c : i = j
    · subst c
      rw [self] at e
      injection e with e
      subst e
      exact ⟨h, K, by simp, hj, fun k' hk' => keepN (e3 k' hk')⟩
    · rw [oAt_set_ne _ c] at e
      obtain ⟨h', K', a1, a2, a3⟩ := W.at_ i k hi e
      exact ⟨h', K', by rw [List.getElem?_append_left (List.getElem?_eq_some_iff.mp a1).1]; exact a1, a2, fun k' hk' => keepN (a3 k' hk')⟩
  · by_cases c : k = done.length
    · subst c; exact ⟨j, hjm, self⟩
    · rw [List.length_append, List.length_singleton] at hk
      obtain ⟨i, hi, e⟩ := W.all k (by omega)
      refine ⟨i, hi, ?_⟩
      rw [oAt_set_ne _ (fun z => by rw [z, e2] at e; cases e)]
      exact e
  · by_cases c : i = j
    · subst c; exact List.mem_cons_self
    · rw [oAt_set_ne _ c] at e
      exact List.mem_cons_of_mem _ (hin i hi e)
theorem lay_fold {m : Nat} (M : Msk m) : ∀ (rest done : List Int) (owner : Array (Option Nat)), L2.Own m done owner → done.length + rest.length ≤ m →
    ∃ owner', rest.foldl (stepF m) (some (owner, done.length)) = some (owner', (done ++ rest).length) ∧ L2.Own m (done ++ rest) owner'
  | [], done, owner, W, _ => ⟨owner, by simp, by rw [List.append_nil]; exact W⟩
  | h :: rest, done, owner, W, hl => by
    rw [List.length_cons] at hl
    obtain ⟨j, e, W'⟩ := own_more M W (by omega) h
    obtain ⟨owner', f, W2⟩ := lay_fold M rest (done ++ [h]) _ W' (by simp; omega)
    rw [List.append_assoc, List.singleton_append] at f W2
    refine ⟨owner', ?_, W2⟩
    rw [List.foldl_cons, stepF_some e]
    have el : (done ++ [h]).length = done.length + 1 := by simp
    rw [el] at f
    exact f
theorem lay_clean {m : Nat} (M : Msk m) {hs : Array Int} (hn : hs.size ≤ m) : ∃ owner, SetTable.layClean m hs = some owner ∧ L2.Own m hs.toList owner := by
  obtain ⟨owner, f, W⟩ := lay_fold M hs.toList [] _ (Own.init m) (by simpa using hn)
  rw [List.nil_append] at W f
  refine ⟨owner, ?_, W⟩
  rw [layClean_eq]
  exact congrArg (Option.map (·.1)) f
/-- the larger table -/
theorem Tab.anew (t : SetTable) {hs : Array Int} {wanted M : Nat} (hw : SetTable.sizeAbove wanted - 1 = M) (hM : Msk M) (hn : hs.size ≤ M) :
    ∃ t' order, t.relaid hs wanted = some (t', order) ∧ order.toList.Perm (List.range hs.size) ∧ Tab t' (order.toList.map fun i => hs.getD i 0) ∧ t'.mask = M ∧ t'.led = t.led ∧ t'.plain = t.plain := by
  obtain ⟨owner, e, W⟩ := lay_clean hM hn
  have hr : t.relaid hs wanted = some (tabOf t M owner, ((liveOf M owner).map (·.2)).toArray) := by
    rw [relaid_eq, hw, e]
    rfl
  obtain ⟨r1, r2⟩ := ris_live (fun j => owner.getD j none) (List.range (M + 1)) (by
    unfold Ris
    first | exact List.pairwise_lt_range | exact List.pairwise_lt_range _)
  have nd : ((liveOf M owner).map (·.1)).Nodup := List.Pairwise.imp (fun h => Nat.ne_of_lt h) r1
  have lv : ∀ {q : Nat × Nat}, q ∈ liveOf M owner → q.1 ≤ M ∧ oAt owner q.1 = some q.2 := fun {q} hq => (mem_live W.sz).1 hq
  have hlen : (liveOf M owner).length = hs.size := by
    obtain ⟨ps, p1, p2⟩ := W.ps
    have a := nat_nodup_len ((liveOf M owner).map (·.1)) ps nd fun x hx => by
      obtain ⟨q, hq, eq1⟩ := List.mem_map.mp hx
      obtain ⟨b1, b2⟩ := lv hq
      rw [← eq1]
      exact p2 q.1 b1 (by rw [b2]; exact fun z => nomatch z)
    have b := nat_nodup_len (List.range hs.size) ((liveOf M owner).map (·.2)) List.nodup_range fun k hk => by
      obtain ⟨j, b1, b2⟩ := W.all k (by rw [Array.length_toList]; exact List.mem_range.mp hk)
      exact List.mem_map.mpr ⟨(j, k), (mem_live W.sz).2 ⟨b1, b2⟩, rfl⟩
    rw [List.length_map, p1] at a
    rw [List.length_map, List.length_range] at b
    have hz : hs.toList.length = hs.size := rfl
    omega
  refine ⟨_, _, hr, perm_range hs.size _ (by simpa using hlen) fun k hk => ?_, ⟨r1, rfl, ?_, hM, fun x hx => Nat.le_of_lt_succ (List.mem_range.mp (r2 x hx)), fun i h j h1 h2 => ?_⟩, rfl, rfl, rfl⟩
  · obtain ⟨j, b1, b2⟩ := W.all k (by rw [Array.length_toList]; exact hk)
    exact List.mem_map.mpr ⟨(j, k), (mem_live W.sz).2 ⟨b1, b2⟩, rfl⟩
  · show ((liveOf M owner).map (·.1)).toArray.size = (((liveOf M owner).map (·.2)).map fun i => hs.getD i 0).length
    simp
  · have h1' : (((liveOf M owner).map (·.2)).map fun i => hs.getD i 0)[i]? = some h := h1
    have h2' : ((liveOf M owner).map (·.1))[i]? = some j := h2
    rw [List.getElem?_map, List.getElem?_map] at h1'
    rw [List.getElem?_map] at h2'
    cases hq : (liveOf M owner)[i]? with
    | none => rw [hq] at h2'; cases h2'
    | some q =>
      rw [hq] at h1' h2'
      have ej : q.1 = j := Option.some.inj h2'
      have eh : hs.getD q.2 0 = h := Option.some.inj h1'
      obtain ⟨b1, b2⟩ := lv (List.mem_of_getElem? hq)
      obtain ⟨h0, K, a1, a2, a3⟩ := W.at_ q.1 q.2 b1 b2
      have e0 : hs.getD q.2 0 = h0 := by
        rw [Array.getD_eq_getD_getElem?, ← Array.getElem?_toList, a1]
        rfl
      have ehh : h0 = h := e0.symm.trans eh
      subst ehh
      refine ⟨K, a2.trans ej, fun k' hk' => ?_⟩
      show way M h0 k' ∈ (liveOf M owner).map (·.1)
      cases z : oAt owner (way M h0 k') with
      | none => exact absurd z (a3 k' hk')
      | some k2 => exact List.mem_map.mpr ⟨(way M h0 k', k2), (mem_live W.sz).2 ⟨way_in, z⟩, rfl⟩
theorem size_77 : SetTable.sizeAbove (SetTable.grown 77) = 512 := by decide +kernel
end K61

end

section
set_option linter.all false
set_option maxRecDepth 100000
set_option maxHeartbeats 4000000
/-! K61, sets 2: sets of tuples of whole numbers, nested: searched, added to. -/
namespace K61
open PySem PySem.Spec PyProof.Rows L2

/-! ### keys: tuples of whole numbers, nested -/
def intK : Nat → NestedKey → Bool
  | _, .num _ => true
  | n + 1, .tup ks => ks.all (intK n)
  | _, _ => false
theorem intK_depth : ∀ (n : Nat) (k : NestedKey), intK n k = true → k.depth ≤ n
  | n, .num _, _ => by simp [NestedKey.depth]
  | n, .none, _ => by simp [NestedKey.depth]
  | n, .text _, _ => by simp [NestedKey.depth]
  | 0, .tup ks, h => by simp [intK] at h
  | n + 1, .tup ks, h => by
    have h' : ks.all (intK n) = true := h
    have key : ∀ l : List NestedKey, l.all (intK n) = true → NestedKey.depthAll l ≤ n := by
      intro l
      induction l with
      | nil => intro _; simp [NestedKey.depthAll]
      | cons k r ih =>
        intro q
        rw [List.all_cons, Bool.and_eq_true] at q
        have a := intK_depth n k q.1
        have b := ih q.2
        simp only [NestedKey.depthAll]
        omega
    have := key ks h'
    simp only [NestedKey.depth]
    omega
section
variable {P : Program} {w : World}
theorem hash_key : ∀ (n : Nat) (k : NestedKey) (v : Value) (A : Around) (E : Value → Shared → Prop) (s : Shared) (Q : Bool → Shared → Prop), NestedIs s.heap k v → intK n k = true → Q true s → wpAny (model P w) A (hashByValue n v) Q E s
  | n, .num i, v, A, E, s, Q, x, _, h => by
    cases x with
    | int _ t => cases n <;> exact wpAny_pure h
    | bool e => cases n <;> exact wpAny_pure h
  | n, .none, v, A, E, s, Q, x, hk, h => by cases n <;> simp [intK] at hk
  | n, .text _, v, A, E, s, Q, x, hk, h => by cases n <;> simp [intK] at hk
  | 0, .tup ks, v, A, E, s, Q, x, hk, h => by simp [intK] at hk
  | n + 1, .tup ks, v, A, E, s, Q, x, hk, h => by
    cases x with
    | @tup a o vs m _ hg hc hd hall =>
      have hT : s.TypeIs (.ref a) "tuple" := ⟨o, hg, hc⟩
      have hk' : ks.all (intK n) = true := hk
      unfold hashByValue
      refine wpAny_bind (wpAny_specialOf hT F.slot_tuple_hash.lookup ?_)
      show wpAny _ _ (seqItems? (.ref a) >>= _) _ _ s
      refine wpAny_bind (wpAny_seqItems hg hd (wpAny_bind ?_))
      show wpAny _ _ (forIn vs _ _) _ _ s
      rw [← Array.forIn_toList]
      refine wpAny_forIn_list _ (fun rest r s' => r.1 = none ∧ s' = s ∧ ∃ ls, NestedAll s.heap ls rest ∧ ls.all (intK n) = true) _ ?_ ?_ _ _ ⟨rfl, rfl, ks, hall, hk'⟩
      · rintro y rest r s' ⟨hr, rfl, ls, hl, ha⟩
        cases hl with
        | cons h1 h2 =>
          rw [List.all_cons, Bool.and_eq_true] at ha
          refine wpAny_bind (hash_key n _ y A E s' _ h1 ha.1 ?_)
          simp only [Bool.not_true, Bool.false_eq_true, if_false]
          exact wpAny_pure ⟨rfl, rfl, _, h2, ha.2⟩
      · rintro ⟨r1, r2⟩ s' ⟨hr, rfl, _⟩
        simp only at hr
        subst hr
        exact wpAny_pure h
theorem class_key : ∀ (n : Nat) (k : NestedKey) (v : Value) (A : Around) (E : Value → Shared → Prop) (s : Shared) (Q : Bool → Shared → Prop), NestedIs s.heap k v → intK n k = true → Q false s → wpAny (model P w) A (ofAClassStatement n v) Q E s
  | n, .num i, v, A, E, s, Q, x, _, h => by
    cases x with
    | int _ t => cases n <;> exact wpAny_pure h
    | bool e => cases n <;> exact wpAny_pure h
  | n, .none, v, A, E, s, Q, x, hk, h => by cases n <;> simp [intK] at hk
  | n, .text _, v, A, E, s, Q, x, hk, h => by cases n <;> simp [intK] at hk
  | 0, .tup ks, v, A, E, s, Q, x, hk, h => by simp [intK] at hk
  | n + 1, .tup ks, v, A, E, s, Q, x, hk, h => by
    cases x with
    | @tup a o vs m _ hg hc hd hall =>
      have hT : s.TypeIs (.ref a) "tuple" := ⟨o, hg, hc⟩
      have hk' : ks.all (intK n) = true := hk
      unfold ofAClassStatement
      refine wpAny_bind (wpAny_typeOf hT ?_)
      dsimp only
      have e : (("tuple" : String) == "tuple") = true := by decide
      simp only [e, if_true, Bool.not_true, Bool.false_eq_true, if_false]
      try refine wpAny_bind (wpAny_pure ?_)
      try simp only [Bool.not_true, Bool.false_eq_true, if_false]
      show wpAny _ _ (seqItems? (.ref a) >>= _) _ _ s
      refine wpAny_bind (wpAny_seqItems hg hd ?_)
      dsimp only
      refine wpAny_bind ?_
      show wpAny _ _ (forIn vs _ _) _ _ s
      rw [← Array.forIn_toList]
      refine wpAny_forIn_list _ (fun rest r s' => r.1 = none ∧ s' = s ∧ ∃ ls, NestedAll s.heap ls rest ∧ ls.all (intK n) = true) _ ?_ ?_ _ _ ⟨rfl, rfl, ks, hall, hk'⟩
      · rintro y rest r s' ⟨hr, rfl, ls, hl, ha⟩
        cases hl with
        | cons h1 h2 =>
          rw [List.all_cons, Bool.and_eq_true] at ha
          refine wpAny_bind (class_key n _ y A E s' _ h1 ha.1 ?_)
          simp only [Bool.false_eq_true, if_false]
          exact wpAny_pure ⟨rfl, rfl, _, h2, ha.2⟩
      · rintro ⟨r1, r2⟩ s' ⟨hr, rfl, _⟩
        simp only at hr
        subst hr
        exact wpAny_pure h
end
/-- the tuple at a is the key k -/
structure KyAt (h : Heap) (k : NestedKey) (a : Addr) : Prop where
  is : NestedIs h k (.ref a)
  nums : intK 8 k = true
section
variable {P : Program} {w : World} {A : Around} {E : Value → Shared → Prop} {s : Shared}
theorem KyAt.kind {h : Heap} {k : NestedKey} {a : Addr} (x : KyAt h k a) : (nestedKind P w).is h k a := ⟨x.is, intK_depth 8 k x.nums⟩
theorem KyAt.seq {h : Heap} {k : NestedKey} {a : Addr} (x : KyAt h k a) : ∃ o vs n, h.get? a = some o ∧ o.cls = .type "tuple" ∧ o.data = .seq vs n := by
  cases x.is with
  | tup h1 h2 h3 _ => exact ⟨_, _, _, h1, h2, h3⟩
theorem KyAt.keep {h h' : Heap} {k : NestedKey} {a : Addr} (x : KyAt h k a) (kp : ∀ b o vs n, h.get? b = some o → o.data = .seq vs n → h'.get? b = some o) : KyAt h' k a := ⟨NestedIs.at kp k _ x.is, x.nums⟩
theorem KyAt.but {h h' : Heap} {k : NestedKey} {a b : Addr} {o : Obj} {es : Array (Int × Value)} {ep : Nat} {t : SetTable} (x : KyAt h k a) (ho : h.get? b = some o) (hd : o.data = .set es ep t) (hs : Heap.SameBut b h h') : KyAt h' k a :=
  x.keep fun c oc vs n e1 e2 => (hs.2 c (fun z => by subst z; rw [ho] at e1; cases e1; rw [hd] at e2; cases e2)).trans e1
theorem quiet_ky {k : NestedKey} {a : Addr} {Q : Bool → Shared → Prop} (x : KyAt s.heap k a) (h : Q true s) : wpAny (model P w) A (eqIsQuiet 8 (.ref a)) Q E s := (nestedKind P w).quiet x.kind h
theorem eq_ky {k k' : NestedKey} {a b : Addr} {Q : Bool → Shared → Prop} (hu : A.units + 8 < cLine) (x : KyAt s.heap k a) (y : KyAt s.heap k' b) (h : Q (decide (k = k')) s) : wpAny (model P w) A (eqBool (.ref a) (.ref b)) Q E s := (nestedKind P w).eqBool hu x.kind y.kind h
/-- nothing is seen of a search among such tuples -/
theorem unseen_ky {k : NestedKey} {b : Addr} {Q : Bool → Shared → Prop} (hk : KyAt s.heap k b) {ys : List Value} (hy : ∀ y ∈ ys, ∃ k' c, y = Value.ref c ∧ KyAt s.heap k' c) (h : Q false s) :
    wpAny (model P w) A (searchCouldBeSeen (.ref b) ys) Q E s := by
  unfold searchCouldBeSeen
  refine wpAny_bind (wpAny_forIn_list _ (fun rest r s' => r.1 = none ∧ s' = s ∧ ∀ y ∈ rest, ∃ k' c, y = Value.ref c ∧ KyAt s.heap k' c) _ ?_ ?_ _ _ ⟨rfl, rfl, hy⟩)
  · rintro v rest r s' ⟨hr, rfl, hall⟩
    obtain ⟨k', c, rfl, hc⟩ := hall v List.mem_cons_self
    have more : ∀ y ∈ rest, ∃ k' c, y = Value.ref c ∧ KyAt s'.heap k' c := fun u hu' => hall u (List.mem_cons_of_mem _ hu')
    dsimp only
    by_cases hv : (b == c || (carriedByValue (.ref b) && carriedByValue (.ref c))) = true
    · exact wp_if_pos hv (wpAny_pure ⟨rfl, rfl, more⟩)
    · refine wp_if_neg hv (wpAny_bind (quiet_ky hk ?_))
      simp only [Bool.not_true, Bool.false_eq_true, if_false]
      refine wpAny_bind (quiet_ky hc ?_)
      simp only [Bool.not_true, Bool.false_eq_true, if_false]
      refine wpAny_bind (class_key 8 k _ A E s' _ hk.is hk.nums ?_)
      simp only [Bool.false_eq_true, if_false]
      refine wpAny_bind (class_key 8 k' _ A E s' _ hc.is hc.nums ?_)
      simp only [Bool.false_eq_true, if_false]
      exact wpAny_pure ⟨rfl, rfl, more⟩
  · rintro ⟨r1, r2⟩ s' ⟨hr, rfl, _⟩
    simp only at hr
    subst hr
    exact wpAny_pure h

/-! ### the set at a: its tuples by place -/
def rws (w : World) (L : List (Addr × NestedKey)) : List (Int × Value) := L.map fun p => (p.2.hash w, Value.ref p.1)
theorem rws_len (w : World) (L : List (Addr × NestedKey)) : (rws w L).length = L.length := by simp [rws]
structure SetN (w : World) (h : Heap) (a : Addr) (L : List (Addr × NestedKey)) (es : Array (Int × Value)) (ep : Nat) (t : SetTable) : Prop where
  ob : ∃ o, h.get? a = some o ∧ o.ExactSet ∧ o.data = .set es ep t
  rows : es.toList = rws w L
  tab : Tab t (L.map fun p => p.2.hash w)
  nd : (L.map (·.2)).Nodup
  key : ∀ p ∈ L, KyAt h p.2 p.1
  plain : t.plain = true
  led : w.params.followText "set-order" = true ∨ t.led = true
  room : L.length * 5 < t.mask * 3
  few : L.length ≤ 200
variable {a : Addr} {L : List (Addr × NestedKey)} {es : Array (Int × Value)} {ep : Nat} {t : SetTable}
theorem size_rws (h : es.toList = rws w L) : es.size = L.length := by rw [← Array.length_toList, h, rws_len]
theorem entry_rws (hr : es.toList = rws w L) {i : Nat} {p : Addr × NestedKey} (h : L[i]? = some p) : es[i]? = some (p.2.hash w, Value.ref p.1) := by
  rw [← Array.getElem?_toList, hr]
  unfold rws
  rw [List.getElem?_map, h]
  rfl
theorem SetN.fits (R : SetN w s.heap a L es ep t) : t.fits es.size = true := by
  have h1 := R.tab.many
  rw [List.length_map] at h1
  have h2 := size_rws R.rows
  have h3 := R.room
  unfold SetTable.fits SetTable.fill
  rw [R.tab.dum, Bool.and_eq_true, beq_iff_eq, decide_eq_true_eq]
  show t.place.size = es.size ∧ t.place.size + 0 ≤ t.mask
  omega
theorem SetN.stays (R : SetN w s.heap a L es ep t) : ¬ t.gaveWay = true := by
  unfold SetTable.gaveWay
  rw [R.tab.msk.odd]
  decide

/-- a search from the c-th step of the way on; K: the first empty slot's step -/
theorem seek (R : SetN w s.heap a L es ep t) {x : Addr} {k : NestedKey} (hx : KyAt s.heap k x) (hu : A.units + 8 < cLine) {adding : Bool} {K : Nat} (hKf : K < 10 * SetTable.turns t.mask)
    (hK : way t.mask (k.hash w) K ∉ t.place.toList) (hKb : ∀ c, c < K → way t.mask (k.hash w) c ∈ t.place.toList) {Q : SetFound → Shared → Prop}
    (hin : ∀ r, k ∈ L.map (·.2) → (adding = false → r.isSome = true) → Q (.there r) s) (hout : k ∉ L.map (·.2) → Q (.free (way t.mask (k.hash w) K) false) s) :
    ∀ (f c : Nat) (stand : Option SetTable.Probe), stand.getD (t.probeStart (k.hash w)) = nth t.mask (runAt t.mask (SetTable.bits (k.hash w) % (t.mask + 1)) (SetTable.bits (k.hash w))) c → c ≤ K → K - c < f →
      (∀ (i : Nat) p, L[i]? = some p → p.2 = k → ∃ c', c ≤ c' ∧ c' < K ∧ t.place.toList[i]? = some (way t.mask (k.hash w) c')) →
      wpAny (model P w) A (setSearchFrom a (.ref x) (k.hash w) adding f stand) Q E s
  | 0, c, stand, _, _, hf, _ => absurd hf (Nat.not_lt_zero _)
  | f + 1, c, stand, hst, hc, hf, hre => by
    obtain ⟨o, ho, hex, hd⟩ := R.ob
    rw [setSearchFrom_succ]
    refine wpAny_bind (wpAny_setState_of ho hd R.fits ?_)
    dsimp only
    refine wp_if_neg R.stays ?_
    try refine wpAny_bind (wpAny_pure ?_)
    generalize hH : k.hash w = H at *
    generalize hp0 : runAt t.mask (SetTable.bits H % (t.mask + 1)) (SetTable.bits H) = p0 at *
    have wayE : ∀ q, way t.mask H q = (nth t.mask p0 q).j := fun q => by rw [← hp0]
    have nodum : (nth t.mask p0 c).dummy = none := by
      have key : ∀ (n : Nat) (p : SetTable.Probe), p.dummy = none → (nth t.mask p n).dummy = none := by
        intro n
        induction n with
        | zero => intro p h; exact h
        | succ n ih =>
          intro p h
          refine ih (adv t.mask p) ?_
          unfold adv
          split <;> exact h
      exact key c p0 (by rw [← hp0]; rfl)
    have sh : ∀ q, nth t.mask (nth t.mask p0 c) q = nth t.mask p0 (c + q) := fun q => (nth_add t.mask c p0 q).symm
    have shj : ∀ q, (nth t.mask (nth t.mask p0 c) q).j = way t.mask H (c + q) := fun q => by rw [sh, wayE]
    have hashAt : ∀ (i : Nat) p, L[i]? = some p → (fun i => (es[i]?.map (·.1)).getD 0) i = p.2.hash w := fun i p hp => by
      show (es[i]?.map (·.1)).getD 0 = _
      rw [entry_rws R.rows hp]
      rfl
    have spec := go_spec t R.tab.asc R.tab.dum (fun i => (es[i]?.map (·.1)).getD 0) H (10 * SetTable.turns t.mask) (K - c) _ nodum (by omega)
      (fun q hq => by rw [shj]; exact hKb (c + q) (by omega)) (by rw [shj, show c + (K - c) = K by omega]; exact hK)
    rcases spec with ⟨q, i, hq, hi, hh, hno, hpr⟩ | ⟨hno, hpr⟩
    · have hpr' : t.probe (fun i => (es[i]?.map (·.1)).getD 0) H (stand.getD (t.probeStart H)) = some (.candidate (way t.mask H (c + q)) i (nth t.mask p0 (c + (q + 1)))) := by
        rw [hst, ← shj, ← sh]
        exact hpr
      rw [hpr']
      dsimp only
      rw [shj] at hi
      have hil : i < L.length := by
        have h1 := (List.getElem?_eq_some_iff.mp hi).1
        rw [R.tab.len, List.length_map] at h1
        exact h1
      obtain ⟨p, hp⟩ : ∃ p, L[i]? = some p := ⟨L[i], List.getElem?_eq_getElem hil⟩
      have hmem : p ∈ L := List.mem_of_getElem? hp
      have tail : wpAny (model P w) A (searchRest a (.ref x) H adding f es t (way t.mask H (c + q)) i (nth t.mask p0 (c + (q + 1)))) Q E s := by
        unfold searchRest
        rw [entry_rws R.rows hp]
        dsimp only
        refine wpAny_bind (wpAny_holding (eq_ky hu (R.key p hmem) hx ?_))
        refine wpAny_bind (wpAny_setState_of ho hd R.fits ?_)
        dsimp only
        have hsl : t.slot (way t.mask H (c + q)) = .live i := slot_live R.tab.asc hi
        by_cases hkk : p.2 = k
        · have there : k ∈ L.map (·.2) := List.mem_map.mpr ⟨p, hmem, hkk⟩
          cases adding with
          | true =>
            refine wp_if_pos (by simp [hkk]) ?_
            exact wpAny_pure (hin none there fun z => nomatch z)
          | false =>
            refine wp_if_neg (by simp) ?_
            try refine wpAny_bind (wpAny_pure ?_)
            rw [sameMem]
            dsimp only
            simp only [if_true, hsl, entry_rws R.rows hp]
            refine wpAny_bind (wpAny_isSame_ref_self (wpAny_bind (wpAny_pure ?_)))
            simp only [if_true]
            refine wp_if_pos (by simp [hkk]) ?_
            exact wpAny_pure (hin (some i) there fun _ => rfl)
        · refine wp_if_neg (by simp [hkk]) ?_
          try refine wpAny_bind (wpAny_pure ?_)
          rw [sameMem]
          dsimp only
          simp only [if_true, hsl, entry_rws R.rows hp]
          refine wpAny_bind (wpAny_isSame_ref_self (wpAny_bind (wpAny_pure ?_)))
          simp only [if_true]
          refine wp_if_neg (by simp [hkk]) ?_
          subst hH
          refine seek R hx hu hKf hK hKb hin hout f (c + (q + 1)) _ (by rw [hp0]; rfl) (by omega) (by omega) fun i0 p1 h0 hk0 => ?_
          obtain ⟨c', a1, a2, a3⟩ := hre i0 p1 h0 hk0
          refine ⟨c', ?_, a2, a3⟩
          rcases Nat.lt_trichotomy c' (c + q) with z | z | z
          · exfalso
            refine hno (c' - c) i0 (by omega) (by rw [shj, show c + (c' - c) = c' by omega]; exact a3) ?_
            exact (hashAt i0 p1 h0).trans (congrArg (NestedKey.hash w) hk0)
          · exfalso
            subst z
            have s0 := slot_live R.tab.asc a3
            rw [hsl] at s0
            injection s0 with s0
            rw [← s0, hp] at h0
            exact hkk ((congrArg Prod.snd (Option.some.inj h0)).trans hk0)
          · omega
      by_cases hl : t.led = true
      · refine wp_if_neg (by simp [hl]) ?_
        try refine wpAny_bind (wpAny_pure ?_)
        exact tail
      · refine wp_if_pos (by simp [hl]) ?_
        refine wpAny_bind (unseen_ky hx (fun y hy => ?_) ?_)
        · obtain ⟨e, he, ee⟩ := List.mem_map.mp hy
          have he1 : e ∈ es ∧ e.1 = H := by simpa using he
          have he2 : e ∈ es.toList := by simpa using he1.1
          rw [R.rows] at he2
          obtain ⟨p2, hp2, e2⟩ := List.mem_map.mp he2
          exact ⟨p2.2, p2.1, by rw [← ee, ← e2], R.key p2 hp2⟩
        · refine wp_if_neg (by decide) ?_
          try refine wpAny_bind (wpAny_pure ?_)
          exact tail
    · have hpr' : t.probe (fun i => (es[i]?.map (·.1)).getD 0) H (stand.getD (t.probeStart H)) = some (.empty (way t.mask H K) none) := by
        have e2 : way t.mask H K = (nth t.mask (nth t.mask p0 c) (K - c)).j := by rw [shj, show c + (K - c) = K by omega]
        rw [hst, e2]
        exact hpr
      rw [hpr']
      dsimp only
      refine wpAny_pure (hout fun hm => ?_)
      obtain ⟨p1, h0, hk0⟩ := List.mem_map.mp hm
      obtain ⟨i0, h00⟩ := List.getElem?_of_mem h0
      obtain ⟨c', a1, a2, a3⟩ := hre i0 p1 h00 hk0
      refine hno (c' - c) i0 (by omega) (by rw [shj, show c + (c' - c) = c' by omega]; exact a3) ?_
      exact (hashAt i0 p1 h00).trans ((congrArg (NestedKey.hash w) hk0).trans hH)
/-- a search from its start -/
theorem seek_all (R : SetN w s.heap a L es ep t) {x : Addr} {k : NestedKey} (hx : KyAt s.heap k x) (hu : A.units + 8 < cLine) {adding : Bool} {Q : SetFound → Shared → Prop}
    (hin : ∀ r, k ∈ L.map (·.2) → (adding = false → r.isSome = true) → Q (.there r) s)
    (hout : ∀ K, k ∉ L.map (·.2) → way t.mask (k.hash w) K ∉ t.place.toList → (∀ c, c < K → way t.mask (k.hash w) c ∈ t.place.toList) → Q (.free (way t.mask (k.hash w) K) false) s) :
    wpAny (model P w) A (setSearch a (.ref x) (k.hash w) adding) Q E s := by
  have hroom := R.room
  obtain ⟨K, hKf, hK, hKb⟩ := R.tab.gap (by rw [List.length_map]; omega) (k.hash w)
  have hbig : K < 100000 := by
    have : 10 * SetTable.turns t.mask ≤ 5260 := by
      have := R.tab.msk.le
      unfold SetTable.turns
      omega
    omega
  unfold setSearch
  refine seek R hx hu hKf hK hKb hin (fun hn => hout K hn hK hKb) 100000 0 none rfl (Nat.zero_le _) (by omega) fun i p hp hk => ?_
  have hi : (L.map fun p => p.2.hash w)[i]? = some (k.hash w) := by rw [List.getElem?_map, hp, ← hk]; rfl
  have hil : i < t.place.toList.length := by
    rw [R.tab.len, List.length_map]
    exact (List.getElem?_eq_some_iff.mp hp).1
  obtain ⟨c, hc, e⟩ := R.tab.ahead hK hi (List.getElem?_eq_getElem hil)
  exact ⟨c, Nat.zero_le _, hc, by rw [List.getElem?_eq_getElem hil, e]⟩
end
end K61

end

section
set_option linter.all false
set_option maxRecDepth 100000
set_option maxHeartbeats 4000000
/-! K61, sets 3: adding to a set of nested tuples; asking whether one is in it. -/
namespace K61
open PySem PySem.Spec PyProof.Rows L2
section
variable {P : Program} {w : World} {A : Around} {E : Value → Shared → Prop} {s : Shared}
/-- the elements told anew, in the order of places -/
theorem order_rws (L : List (Addr × NestedKey)) (es : Array (Int × Value)) (order : Array Nat) (hr : es.toList = rws w L) (hp : order.toList.Perm (List.range L.length)) :
    ∃ M : List (Addr × NestedKey), (order.filterMap (es[·]?)).toList = rws w M ∧ M.Perm L ∧ (M.map fun p => p.2.hash w) = order.toList.map fun i => (es.map (·.1)).getD i 0 := by
  have lt : ∀ i ∈ order.toList, i < L.length := fun i hi => List.mem_range.mp (hp.mem_iff.mp hi)
  have all : (List.range L.length).filterMap (fun i => L[i]?) = L := by
    have key : ∀ n, n ≤ L.length → (List.range n).filterMap (fun i => L[i]?) = L.take n := by
      intro n
      induction n with
      | zero => intro _; rfl
      | succ n ih =>
        intro hn
        have hlt : n < L.length := hn
        rw [List.range_succ, List.filterMap_append, ih (Nat.le_of_lt hlt), List.take_succ, List.getElem?_eq_getElem hlt, List.filterMap_cons_some (List.getElem?_eq_getElem hlt)]
        rfl
    rw [key L.length (Nat.le_refl _), List.take_length]
  have pm : (order.toList.filterMap fun i => L[i]?).Perm L := by
    have h := hp.filterMap fun i => L[i]?
    rw [all] at h
    exact h
  have two : ∀ l : List Nat, (∀ i ∈ l, i < L.length) → l.filterMap (fun i => es[i]?) = rws w (l.filterMap fun i => L[i]?) ∧ ((l.filterMap fun i => L[i]?).map fun p => p.2.hash w) = l.map fun i => (es.map (·.1)).getD i 0 := by
    intro l
    induction l with
    | nil => intro _; exact ⟨rfl, rfl⟩
    | cons i l ih =>
      intro hl
      obtain ⟨e1, e2⟩ := ih fun j hj => hl j (List.mem_cons_of_mem _ hj)
      have hi := List.getElem?_eq_getElem (hl i List.mem_cons_self)
      have he := entry_rws hr hi
      refine ⟨?_, ?_⟩
      · rw [List.filterMap_cons_some he, List.filterMap_cons_some hi, e1]
        rfl
      · rw [List.filterMap_cons_some hi, List.map_cons, List.map_cons, e2]
        have e5 : (es.map (·.1))[i]? = some ((L[i]'(hl i List.mem_cons_self)).2.hash w) := by rw [Array.getElem?_map, he]; rfl
        congr 1
        simp [Array.getD_eq_getD_getElem?, e5]
  obtain ⟨e1, e2⟩ := two order.toList lt
  exact ⟨_, by first | (rw [Array.toList_filterMap]; exact e1) | simpa using e1, pm, e2⟩
variable {a : Addr} {L : List (Addr × NestedKey)} {es : Array (Int × Value)} {ep : Nat} {t : SetTable}
/-- the table laid anew -/
theorem set_anew {o : Obj} (ho : s.heap.get? a = some o) (hex : o.ExactSet) (hd : o.data = .set es ep t) (hrows : es.toList = rws w L) (hsz : t.place.size = es.size) (hdm : t.dummies = #[]) (hfl : es.size ≤ t.mask)
    (nd : (L.map (·.2)).Nodup) (key : ∀ p ∈ L, KyAt s.heap p.2 p.1) (pl : t.plain = true) (ld : w.params.followText "set-order" = true ∨ t.led = true) (few : L.length ≤ 200) {wanted M : Nat}
    (hw : SetTable.sizeAbove wanted - 1 = M) (hM : Msk M) (hw2 : SetTable.sizeAbove wanted ≤ 512) (hn : L.length * 5 < M * 3) {Q : Unit → Shared → Prop}
    (hQ : ∀ h' L' es' ep' t', Heap.SameBut a s.heap h' → SetN w h' a L' es' ep' t' → L'.Perm L → Q () { s with heap := h' }) : wpAny (model P w) A (setRelay a wanted) Q E s := by
  have hsl := size_rws hrows
  have hfits : t.fits es.size = true := by
    unfold SetTable.fits SetTable.fill
    rw [hdm, Bool.and_eq_true, beq_iff_eq, decide_eq_true_eq]
    show t.place.size = es.size ∧ t.place.size + 0 ≤ t.mask
    omega
  obtain ⟨t', order, e, hp, T, em, el, ep'⟩ := Tab.anew t (hs := es.map (·.1)) (wanted := wanted) hw hM (by rw [Array.size_map, hsl]; omega)
  rw [Array.size_map, hsl] at hp
  obtain ⟨L2, r1, r2, r3⟩ := order_rws L es order hrows hp
  rw [← r3] at T
  have hs2 : (order.filterMap (es[·]?)).size = es.size := by rw [size_rws r1, r2.length_eq, hsl]
  rw [setRelay_eq]
  refine wpAny_bind (wpAny_setState_of ho hd hfits ?_)
  dsimp only
  refine wp_if_neg (by rw [sizeLine_eq]; omega) ?_
  try refine wpAny_bind (wpAny_pure ?_)
  rw [e]
  dsimp only
  refine wpAny_bind ?_
  refine wp_if_neg (by rw [hs2]; simp) ?_
  try refine wpAny_bind (wpAny_pure ?_)
  refine wpAny_pure ?_
  dsimp only
  refine wpAny_storeSet_of ho hd ?_ (by rw [hs2, hsl, sizeLine_eq]; omega)
  have sb : Heap.SameBut a s.heap (s.heap.update a (Obj.putSet (order.filterMap (es[·]?)) t')) := Heap.SameBut.update ..
  refine hQ _ L2 (order.filterMap (es[·]?)) (ep + 1) t' sb ⟨⟨_, store_at ho hd, ⟨hex.1, hex.2.1, hex.2.2⟩, rfl⟩, r1, T, (r2.map (·.2)).nodup_iff.mpr nd, fun p hpm => (key p (r2.mem_iff.mp hpm)).but ho hd sb, by rw [ep']; exact pl, by rw [el]; exact ld, ?_, by rw [r2.length_eq]; exact few⟩ r2
  rw [r2.length_eq, em]
  exact hn
/-- adding -/
theorem set_add (R : SetN w s.heap a L es ep t) {x : Addr} {k : NestedKey} (hx : KyAt s.heap k x) (hu : A.units + 8 < cLine) (hfew : L.length + 1 ≤ 180) {Q : Bool → Shared → Prop}
    (hQ : ∀ b h' L' es' ep' t', Heap.SameBut a s.heap h' → SetN w h' a L' es' ep' t' → (k ∈ L.map (·.2) → L' = L) → (k ∉ L.map (·.2) → L'.Perm ((x, k) :: L)) → Q b { s with heap := h' }) :
    wpAny (model P w) A (setAddHashed a (.ref x) (k.hash w)) Q E s := by
  obtain ⟨o, ho, hex, hd⟩ := R.ob
  have hsl := size_rws R.rows
  have hroom := R.room
  unfold setAddHashed
  refine wpAny_holding ?_
  rw [show (100000 : Nat) = 99999 + 1 from rfl, setAddHashedIn_succ]
  refine wpAny_bind (wpAny_setState_of ho hd R.fits ?_)
  dsimp only
  refine wp_if_neg (by simp [byScan, Value.scannable]) ?_
  try refine wpAny_bind (wpAny_pure ?_)
  refine wpAny_bind (seek_all R hx hu (fun r hm _ => ?_) fun K hm hK hb => ?_)
  · dsimp only
    exact wpAny_pure (hQ false s.heap L es ep t (Heap.SameBut.refl a s.heap) R (fun _ => rfl) fun z => absurd hm z)
  · dsimp only
    refine wpAny_bind (wpAny_setState_of ho hd R.fits ?_)
    dsimp only
    obtain ⟨q2, q3, q9⟩ := R.tab.grow hK hb
    have q1 : (t.put (way t.mask (k.hash w) K)).2 = spot t (k.hash w) K := rfl
    have q4 : (t.put (way t.mask (k.hash w) K)).1.mask = t.mask := rfl
    have q5 : (t.put (way t.mask (k.hash w) K)).1.led = t.led := rfl
    have hp1 : (t.put (way t.mask (k.hash w) K)).1.plain = true := R.plain
    generalize hpt : t.put (way t.mask (k.hash w) K) = pt at q1 q3 q4 q5 q9 hp1 ⊢
    obtain ⟨t1, p⟩ := pt
    dsimp only at q1 q3 q4 q5 q9 hp1 ⊢
    rw [← q1] at q2 q3
    first
      | (refine wpAny_bind ?_; refine wp_if_pos hp1 ?_; refine hash_key 8 k _ A E _ _ hx.is hx.nums ?_)
      | refine wp_if_pos hp1 (wpAny_bind (hash_key 8 k _ A E _ _ hx.is hx.nums ?_))
    simp only [if_true]
    have hin : (SetTable.insertAt es p (k.hash w, Value.ref x)).toList = rws w (L.take p ++ (x, k) :: L.drop p) := by
      rw [SetTable.toList_insertAt, R.rows]
      unfold rws
      rw [List.map_append, List.map_cons, List.map_take, List.map_drop]
    have pm := put_perm L p (x, k)
    have hlen : (L.take p ++ (x, k) :: L.drop p).length = L.length + 1 := pm.length_eq
    have hhs : (L.take p ++ (x, k) :: L.drop p).map (fun p => p.2.hash w) = (L.map fun p => p.2.hash w).take p ++ k.hash w :: (L.map fun p => p.2.hash w).drop p := by
      rw [List.map_append, List.map_cons, List.map_take, List.map_drop]
    rw [← hhs] at q3
    have nd1 : ((L.take p ++ (x, k) :: L.drop p).map (·.2)).Nodup := by
      refine (pm.map (·.2)).nodup_iff.mpr ?_
      rw [List.map_cons]
      exact List.nodup_cons.mpr ⟨hm, R.nd⟩
    have hes : (SetTable.insertAt es p (k.hash w, Value.ref x)).size = L.length + 1 := (size_rws hin).trans hlen
    generalize SetTable.insertAt es p (k.hash w, Value.ref x) = es1 at hin hes ⊢
    generalize L.take p ++ (x, k) :: L.drop p = L1 at pm hlen q3 nd1 hin
    refine wpAny_bind (wpAny_storeSet_of ho hd ?_ (by rw [hes, sizeLine_eq]; omega))
    have sb : Heap.SameBut a s.heap (s.heap.update a (Obj.putSet es1 t1)) := Heap.SameBut.update ..
    have ho1 := store_at (es' := es1) (t' := t1) ho hd
    generalize s.heap.update a (Obj.putSet es1 t1) = h1 at sb ho1 ⊢
    have key1 : ∀ p ∈ L1, KyAt h1 p.2 p.1 := fun p hp => by
      rcases List.mem_cons.mp (pm.mem_iff.mp hp) with e | hp
      · rw [e]; exact hx.but ho hd sb
      · exact (R.key p hp).but ho hd sb
    have ld1 : w.params.followText "set-order" = true ∨ t1.led = true := by rw [q5]; exact R.led
    have fill1 : t1.tooFull = true ↔ (L.length + 1) * 5 ≥ t1.mask * 3 := by
      unfold SetTable.tooFull
      rw [decide_eq_true_eq, q9, List.length_map]
    by_cases hf : t1.tooFull = true
    · first
        | (refine wpAny_bind ?_; refine wp_if_pos (by simp [hf]) ?_)
        | (refine wp_if_pos (by simp [hf]) ?_; refine wpAny_bind ?_)
      have hfull := fill1.mp hf
      rw [q4] at hfull
      rw [hsl]
      have hsz1 : t1.place.size = es1.size := by
        have h := q3.many
        rw [List.length_map, hlen] at h
        rw [h, hes]
      have go : ∀ M, SetTable.sizeAbove (SetTable.grown (L.length + 1)) - 1 = M → Msk M → SetTable.sizeAbove (SetTable.grown (L.length + 1)) ≤ 512 → (L.length + 1) * 5 < M * 3 →
          wpAny (model P w) A (setRelay a (SetTable.grown (L.length + 1))) (fun _ s' => wpAny (model P w) A (pure true) Q E s') E { s with heap := h1 } := fun M h1' h2' h3' h4' => by
        have hr2 : L.length + 1 ≤ t.mask := by rcases R.tab.msk.one with e | e | e | e <;> omega
        refine set_anew (s := { s with heap := h1 }) ho1 ⟨hex.1, hex.2.1, hex.2.2⟩ rfl hin hsz1 q3.dum (by rw [hes, q4]; exact hr2) nd1 key1 hp1 ld1 (by rw [hlen]; omega) h1' h2' h3' (by rw [hlen]; exact h4') ?_
        intro h2 L2 es2 ep2 t2 sb2 R2 pm2
        exact wpAny_pure (hQ true h2 L2 es2 ep2 t2 (sb.trans sb2) R2 (fun z => absurd z hm) fun _ => pm2.trans pm)
      rcases R.tab.msk.one with e | e | e | e
      · have e2 : L.length + 1 = 5 := by omega
        exact go 31 (by rw [e2, size_20]) msk_31 (by rw [e2, size_20]; decide) (by omega)
      · have e2 : L.length + 1 = 19 := by omega
        exact go 127 (by rw [e2, size_76]) msk_127 (by rw [e2, size_76]; decide) (by omega)
      · have e2 : L.length + 1 = 77 := by omega
        exact go 511 (by rw [e2, size_77]) msk_511 (by rw [e2, size_77]; decide) (by omega)
      · omega
    · first
        | refine wp_if_neg (by simp [hf]) ?_
        | (refine wpAny_bind ?_; refine wp_if_neg (by simp [hf]) ?_; refine wpAny_pure ?_)
      refine wpAny_pure (hQ true h1 L1 es1 (ep + 1) t1 sb ⟨⟨_, ho1, ⟨hex.1, hex.2.1, hex.2.2⟩, rfl⟩, hin, q3, nd1, key1, hp1, ld1, ?_, by rw [hlen]; omega⟩ (fun z => absurd z hm) fun _ => pm)
      have h := mt fill1.mpr hf
      rw [hlen]
      omega
end
end K61

end

section
set_option linter.all false
set_option maxRecDepth 100000
set_option maxHeartbeats 4000000
/-! K61, sets 4: the layer's rules: set(), t in found, found.add(t). -/
namespace K61
open PySem PySem.Spec PyProof.Rows L2
mutual
theorem nested_of_reads {h : Heap} : ∀ (k : NestedKey) (v : Value) (as : List Addr), Reads h v k.data as → NestedIs h k v
  | .none, v, as, r => by
    have r' : Reads h v .none as := r
    cases r'
    exact .none
  | .num i, v, as, r => by
    have r' : Reads h v (.int i) as := r
    cases r'
    exact .int _ _
  | .text x, v, as, r => by
    have r' : Reads h v (.str x) as := r
    cases r'
    exact .text _ _
  | .tup ks, v, as, r => by
    have r' : Reads h v (.tuple (NestedKey.datas ks)) as := r
    cases r' with
    | tuple h1 h2 h3 h4 => exact .tup h1 h2 h3 (nested_of_readsAll ks _ _ h4)
theorem nested_of_readsAll {h : Heap} : ∀ (ks : List NestedKey) (vs : List Value) (as : List Addr), ReadsAll h vs (NestedKey.datas ks) as → NestedAll h ks vs
  | [], vs, as, r => by
    have r' : ReadsAll h vs [] as := r
    cases r'
    exact .nil
  | k :: ks, vs, as, r => by
    have r' : ReadsAll h vs (k.data :: NestedKey.datas ks) as := r
    cases r' with
    | cons h1 h2 => exact .cons (nested_of_reads k _ _ h1) (nested_of_readsAll ks _ _ h2)
end
/-- b is a tuple that is the key k -/
structure Ky (K : PySem.W.Frag) (H : Hp) (b : Addr) (k : NestedKey) : Prop where
  dp : Dp K H (.ref b) k.data
  nums : intK 8 k = true
theorem Ky.at {X : Cx} {pins : List (Addr × Obj)} {σ : L2.St} {H : Hp} {s : Shared} {b : Addr} {k : NestedKey} (x : Ky X.K H b k) (I : Inv X pins σ H s) : KyAt s.heap k b := by
  obtain ⟨as, r⟩ := Dp.reads I k.data (.ref b) (.ref b) x.dp rfl
  exact ⟨nested_of_reads k _ _ r, x.nums⟩
/-- a set's own object, its elements by place -/
structure SetB (w : World) (h : Heap) (a : Addr) (L : List (Addr × NestedKey)) : Prop where
  ex : ∃ (es : Array (Int × Value)) (ep : Nat) (t : SetTable), (∃ o, h.get? a = some o ∧ o.ExactSet ∧ o.data = .set es ep t) ∧ es.toList = rws w L ∧ Tab t (L.map fun p => p.2.hash w) ∧ (L.map (·.2)).Nodup ∧ t.plain = true ∧
    (w.params.followText "set-order" = true ∨ t.led = true) ∧ L.length * 5 < t.mask * 3 ∧ L.length ≤ 200
def SetH (w : World) (a : Addr) (L : List (Addr × NestedKey)) : HO := .ext fun h => SetB w h a L
section
variable {w : World} {h : Heap} {a : Addr} {L : List (Addr × NestedKey)} {es : Array (Int × Value)} {ep : Nat} {t : SetTable}
theorem SetN.bare (R : SetN w h a L es ep t) : SetB w h a L := ⟨es, ep, t, R.ob, R.rows, R.tab, R.nd, R.plain, R.led, R.room, R.few⟩
theorem SetB.full (R : SetB w h a L) (hk : ∀ p ∈ L, KyAt h p.2 p.1) : ∃ es ep t, SetN w h a L es ep t := by
  obtain ⟨es, ep, t, h1, h2, h3, h4, h5, h6, h7, h8⟩ := R.ex
  exact ⟨es, ep, t, h1, h2, h3, h4, hk, h5, h6, h7, h8⟩
theorem SetB.obj {P : Program} {H : Hp} (R : SetB w h a L) : ObjOk P w H h a (SetH w a L) := by
  have ⟨es, ep, t, ⟨o, ho, r⟩, q⟩ := R.ex
  refine ⟨R, ⟨o, ho⟩, fun h1 h2 p k => ?_⟩
  have ⟨es', ep', t', ⟨o', ho', r'⟩, q'⟩ := SetB.ex p
  exact ⟨es', ep', t', ⟨o', k o' ho', r'⟩, q'⟩
theorem setN_new (ho : h.get? a = some { cls := .type "set", dict := none, data := .set #[] 0 (.fresh 0 0 (!w.params.followText "set-order")) }) : SetN w h a [] #[] 0 (.fresh 0 0 (!w.params.followText "set-order")) where
  ob := ⟨_, ho, ⟨rfl, rfl, rfl⟩, rfl⟩
  rows := rfl
  tab := ⟨List.Pairwise.nil, rfl, rfl, msk_7, fun x hx => (by cases hx), fun i h j hi => (by simp at hi)⟩
  nd := List.nodup_nil
  key := fun p hp => by cases hp
  plain := rfl
  led := by
    show _ ∨ (!w.params.followText "set-order") = true
    cases w.params.followText "set-order"
    · exact .inr rfl
    · exact .inl rfl
  room := by show 0 * 5 < 7 * 3; decide
  few := by show 0 ≤ 200; decide
end
section
variable {X : Cx}
theorem set_of {pins : List (Addr × Obj)} {σ : L2.St} {H : Hp} {s : Shared} {a : Addr} {L : List (Addr × NestedKey)} (I : Inv X pins σ H s) (ha : H a = some (SetH X.w a L)) (hk : ∀ p ∈ L, Ky X.K H p.1 p.2) : ∃ es ep t, SetN X.w s.heap a L es ep t :=
  SetB.full (I.hok a _ ha).1 fun p hp => (hk p hp).at I
/-- set() -/
def rNewSet (w : World) : List V → Hp → VK → Prop := fun xs H Q => xs = [] ∧ ∀ p, H p = none → Q (.ref p) (upd H p (SetH w p []))
theorem cr_newSet : CallR X (.type "set") (rNewSet X.w) := by
  intro pins s σ H xs us Q I r h
  obtain ⟨rfl, q⟩ := h
  cases r
  refine setR_new (w := X.w) (P := X.prog) fun _ => ?_
  exact ⟨.ref _, upd H s.heap.objs.size (SetH X.w s.heap.objs.size []), I.laid (t' := s.toks) (fun b u e => Heap.get?_push_of_some _ e) (Nat.le_refl _) (setN_new (Heap.get?_push_size _ rfl)).bare.obj, rfl, q _ (I.hok.fresh (Nat.le_refl _))⟩
/-- t in found -/
def rInSet (K : PySem.W.Frag) (w : World) : R2 := fun x y H Q => ∃ (b a : Addr) (k : NestedKey) (L : List (Addr × NestedKey)), x = .ref b ∧ y = .ref a ∧ Ky K H b k ∧ H a = some (SetH w a L) ∧ (∀ p ∈ L, Ky K H p.1 p.2) ∧ Q (.bl (decide (k ∈ L.map (·.2)))) H
theorem op_inSet (hu : X.A.units + 64 < cLine) : OpR X (compareOp .In) (rInSet X.K X.w) := by
  intro pins s σ H x y v u Q I rx ry h
  obtain ⟨b, a, k, L, rfl, rfl, hb, ha, hk, q⟩ := h
  cases rx
  cases ry
  obtain ⟨es, ep, t, R⟩ := set_of I ha hk
  have hx := hb.at I
  obtain ⟨o, ho, hex, hd⟩ := R.ob
  have hT : s.TypeIs (.ref a) "set" := ⟨o, ho, hex.1⟩
  show wpAny _ _ (do return Value.bool (← contains (Value.ref a) (Value.ref b))) _ _ s
  refine wpAny_bind ?_
  unfold contains
  try with_reducible refine wpAny_holding ?_
  refine wpAny_bind (wpAny_specialOf hT F.slot_set_contains.lookup ?_)
  show wpAny _ _ (if (some (Value.builtin "set.__contains__") == some Value.none) = true then _ else _) _ _ s
  rw [if_neg (by rw [beq_builtin_none]; exact Bool.false_ne_true)]
  refine wpAny_bind (wpAny_callSpecialUnlessNone?_slot (name := Str.ofString "__contains__") hT F.slot_set_contains
    (wpAny_call_entry F.slot_set_contains hT entry_set_contains ?_ (F.args_set_contains_2 _ _)))
  unfold Builtin.«frozenset.__contains__» Builtin.Frozenset.oneOther
  simp only [List.isEmpty_nil, bind_assoc]
  unfold Builtin.Frozenset.addrOf Builtin.Frozenset.withSetAsKey setContains
  refine wpAny_bind (wpAny_pure ?_)
  try dsimp only
  refine wpAny_bind (wpAny_pure ?_)
  try dsimp only
  refine wpAny_bind (wpAny_tryCatch ?_)
  refine wpAny_holding ?_
  refine wpAny_bind ((nestedKind X.prog X.w).pyHash (by show _ + 8 < cLine; simp; omega) hx.kind ?_)
  have R2 : SetN X.w ({ s with toks := s.toks + k.draws } : Shared).heap a L es ep t := R
  refine wpAny_bind ?_
  unfold setFind
  rw [show (100000 : Nat) = 99999 + 1 from rfl]
  unfold setFindIn
  refine wpAny_bind (wpAny_setState_of (s := { s with toks := s.toks + k.draws }) ho hd R.fits ?_)
  dsimp only
  refine wp_if_neg (by simp [byScan, Value.scannable]) ?_
  try refine wpAny_bind (wpAny_pure ?_)
  refine wpAny_bind (seek_all (s := { s with toks := s.toks + k.draws }) (adding := false) R2 hx (by simp; omega) (fun r hm hr => ?_) fun K hm _ _ => ?_)
  · dsimp only
    refine wpAny_pure (wpAny_pure ?_)
    show wpAny _ _ (ret (Value.bool r.isSome)) _ _ _
    rw [hr rfl]
    refine wpAny_pure ⟨_, rfl, wpAny_truthy_bool (wpAny_pure ⟨.bl _, H, I.tok _, ?_, q⟩)⟩
    rw [decide_eq_true hm]
    rfl
  · dsimp only
    refine wpAny_pure (wpAny_pure ?_)
    show wpAny _ _ (ret (Value.bool false)) _ _ _
    refine wpAny_pure ⟨_, rfl, wpAny_truthy_bool (wpAny_pure ⟨.bl _, H, I.tok _, ?_, q⟩)⟩
    rw [decide_eq_false hm]
    rfl
/-- found.add(t) -/
def rAddSet (K : PySem.W.Frag) (w : World) : V → List V → Hp → VK → Prop := fun x xs H Q => ∃ (a b : Addr) (k : NestedKey) (L : List (Addr × NestedKey)), x = .ref a ∧ xs = [.ref b] ∧ Ky K H b k ∧ H a = some (SetH w a L) ∧ (∀ p ∈ L, Ky K H p.1 p.2) ∧ L.length + 1 ≤ 180 ∧
  ∀ L', (k ∈ L.map (·.2) → L' = L) → (k ∉ L.map (·.2) → L'.Perm ((b, k) :: L)) → Q .non (upd H a (SetH w a L'))
theorem mt_addSet (hu : X.A.units + 64 < cLine) : MtR X "set.add" (rAddSet X.K X.w) := by
  intro pins s σ H x xs v us Q I rx rxs h
  obtain ⟨a, b, k, L, rfl, rfl, hb, ha, hk, hl, q⟩ := h
  cases rx
  cases rxs with
  | cons ry rt =>
    cases rt
    cases ry
    obtain ⟨es, ep, t, R⟩ := set_of I ha hk
    have hx := hb.at I
    obtain ⟨o, ho, hex, hd⟩ := R.ob
    refine wpAny_call_entry F.slot_set_add ⟨o, ho, hex.1⟩ F.entry_set_add ?_ (F.args_set_add_2 _ _)
    unfold Builtin.«set.add» Builtin.Frozenset.oneOther
    simp only [List.isEmpty_nil, bind_assoc]
    unfold Builtin.Frozenset.addrOf setAdd
    refine wpAny_bind (wpAny_pure ?_)
    try dsimp only
    refine wpAny_bind (wpAny_pure ?_)
    try dsimp only
    refine wpAny_bind (wpAny_holding ?_)
    refine wpAny_bind ((nestedKind X.prog X.w).pyHash (by show _ + 8 < cLine; simp; omega) hx.kind ?_)
    have R2 : SetN X.w ({ s with toks := s.toks + k.draws } : Shared).heap a L es ep t := R
    refine set_add (s := { s with toks := s.toks + k.draws }) R2 hx (by simp; omega) hl fun bb h' L' es' ep' t' sb R' c1 c2 => ?_
    show wpAny _ _ (ret Value.none) _ _ _
    have he : ∃ u, h'.get? a = some u := let ⟨o, ho, _⟩ := R'.ob; ⟨o, ho⟩
    exact wpAny_pure ⟨_, rfl, .non, upd H a (SetH X.w a L'), I.write (e := a) (t' := s.toks + k.draws) (by rw [ha]; trivial) (.inl rfl) (fun b u hb hu => (sb.2 b hb).trans hu) he R'.bare.obj, rfl, q L' c1 c2⟩
variable {o e : Expr} {es : List Expr} {to : TE} {t : TA} {apos cpos : Pos}
def tAddSet (K : PySem.W.Frag) (w : World) (to : TE) (t : TA) : TE := fun σ H Q => to σ H fun x H1 => (∃ a L, x = V.ref a ∧ H1 a = some (SetH w a L)) ∧ t σ H1 fun xs H2 => rAddSet K w x xs H2 Q
theorem pe_addSet (hu : X.A.units + 64 < cLine) (ho : PE X o to) (ha : PA X (e :: es) t)
    (hbase : attributeBase o "add" X.env (eval o X.env) = eval o X.env := by rfl)
    (hfew : ((backTo cpos (starEach (e :: es) X.env)).all (fun x => !x.1) && (backToKw cpos (keywordEach [] X.env)).all (fun x => x.1.isSome) && decide ((e :: es).length + ([] : List Keyword).length + (if ([] : List Keyword).isEmpty then 0 else 1) < 30)) = true := by rfl)
    (hline : (apos.endLine == cpos.line) = true := by rfl) (hs : starEach (e :: es) X.env = (false, eval e X.env) :: starEach es X.env := by rfl) (hplain : (backTo cpos (starEach es X.env)).any (·.1) = false := by rfl) :
    PE X (.Call (.Attribute o "add" apos) (e :: es) [] cpos) (tAddSet X.K X.w to t) := by
  refine ⟨fun pins s σ H Q I h => ?_⟩
  refine wpAny_Call_method_late hbase hfew hline rfl (thn (ho.run pins s σ H _ I h) fun v s1 ⟨x, H1, I1, r1, ty, q1⟩ => ?_)
  obtain ⟨a, L, rfl, hka⟩ := ty
  obtain ⟨es', ep', t', ⟨ob, hob, hex, hd⟩, _⟩ := SetB.ex (I1.hok a _ hka).1
  cases r1
  refine ⟨"set", "set.add", F.plainAttrs_set, F.slot_set_add, F.type_set_add, ⟨ob, hob, hex.1⟩, fun b eb => by injection eb with eb; subst eb; exact ⟨ob, hob, hex.2.1⟩, ?_⟩
  have hA := ha.run cpos pins s1 σ H1 _ I1 q1
  rw [hs] at hA ⊢
  refine Calls.callWith_builtin (by show (false || (backTo cpos (starEach es X.env)).any (·.1)) = false; rw [hplain] <;> rfl) (Calls.evalArgs_plain ?_)
  exact thn hA fun us s2 ⟨vs, H2, I2, r2, q2⟩ => mt_addSet hu pins s2 σ H2 (.ref a) vs (.ref a) us Q I2 rfl r2 q2
end
end K61

end

section
set_option linter.all false
set_option maxRecDepth 100000
set_option maxHeartbeats 4000000
/-! K61, sets 5: set(xs), sorted(found). -/
namespace K61
open PySem PySem.Spec PyProof.Rows L2
/-- what a set has gathered of the first i keys -/
structure Gath (ks : List (Addr × NestedKey)) (i : Nat) (L : List (Addr × NestedKey)) : Prop where
  sub : ∀ p ∈ L, p ∈ ks
  all : ∀ j p, j < i → ks[j]? = some p → p.2 ∈ L.map (·.2)
  len : L.length ≤ i
theorem Gath.same {ks L : List (Addr × NestedKey)} {i : Nat} {x : Addr × NestedKey} (g : Gath ks i L) (h : ks[i]? = some x) (hm : x.2 ∈ L.map (·.2)) : Gath ks (i + 1) L :=
  ⟨g.sub, fun j p hj hp => by
    rcases Nat.lt_or_ge j i with c | c
    · exact g.all j p c hp
    · have e : j = i := by omega
      subst e
      rw [h] at hp
      cases hp
      exact hm, Nat.le_succ_of_le g.len⟩
theorem Gath.more {ks L L' : List (Addr × NestedKey)} {i : Nat} {x : Addr × NestedKey} (g : Gath ks i L) (h : ks[i]? = some x) (pm : L'.Perm (x :: L)) : Gath ks (i + 1) L' := by
  refine ⟨fun p hp => ?_, fun j p hj hp => (pm.map (·.2)).mem_iff.mpr ?_, by rw [pm.length_eq]; exact Nat.succ_le_succ g.len⟩
  · rcases List.mem_cons.mp (pm.mem_iff.mp hp) with e | e
    · rw [e]; exact List.mem_of_getElem? h
    · exact g.sub p e
  · rcases Nat.lt_or_ge j i with c | c
    · exact List.mem_cons_of_mem _ (g.all j p c hp)
    · have e : j = i := by omega
      subst e
      rw [h] at hp
      cases hp
      exact List.mem_cons_self
section
variable {P : Program} {w : World} {A : Around} {E : Value → Shared → Prop} {s : Shared}
theorem KyAt.kept {h h' : Heap} {k : NestedKey} {b : Addr} (x : KyAt h k b) (hk : ∀ c o, h.get? c = some o → h'.get? c = some o) : KyAt h' k b := x.keep fun b o _ _ e _ => hk b o e
theorem SetN.kept {h h' : Heap} {a : Addr} {L : List (Addr × NestedKey)} {es : Array (Int × Value)} {ep : Nat} {t : SetTable} (R : SetN w h a L es ep t) (ha : ∀ o, h.get? a = some o → h'.get? a = some o) (ht : ∀ p ∈ L, KyAt h' p.2 p.1) : SetN w h' a L es ep t :=
  let ⟨o, ho, r⟩ := R.ob
  ⟨⟨o, ha o ho, r⟩, R.rows, R.tab, R.nd, ht, R.plain, R.led, R.room, R.few⟩
/-- the loop of set.update -/
theorem gather {I : Addr} {fp wr : List Addr} {G : Array GenState → Array GenState → Prop} {n : Nat} {Pv : Nat → Value → Prop} {St : Nat → Shared → Prop} {R : Result → Shared → Prop}
    (W : WalksS P w A.in1 I fp wr G n Pv St) (S : Addr) (hSf : S ∉ fp) (ks : List (Addr × NestedKey)) (hn : n = ks.length) (hfew : ks.length ≤ 180) (hval : ∀ i v, Pv i v → ∃ p, ks[i]? = some p ∧ v = .ref p.1)
    (h0 : Heap) (hk : ∀ p ∈ ks, KyAt h0 p.2 p.1) (hS0 : h0.get? S = none) (hw0 : ∀ b ∈ wr, h0.get? b = none) (hu : A.in1.units + 8 < cLine) :
    ∀ (k i : Nat) (s : Shared), n - i = k → i ≤ n → St i s → (∀ b o, h0.get? b = some o → s.heap.get? b = some o) → (∃ L es ep t, SetN w s.heap S L es ep t ∧ Gath ks i L) →
      (∀ s' L es ep t, Moved (S :: wr) G s s' → SetN w s'.heap S L es ep t → Gath ks n L → (∀ b o, h0.get? b = some o → s'.heap.get? b = some o) → R (.ok (.ret .none)) s') →
      codeAny (model P w) A (.builtin "set.update.loop" ⟨[.ref S, .ref I], []⟩) R s := by
  have hSw : S ∉ wr := fun h => hSf (W.sub _ h)
  have inc : ∀ b ∈ wr, b ∈ S :: wr := fun b hb => List.mem_cons_of_mem _ hb
  have moved : ∀ {s s' : Shared}, Moved wr G s s' → (∀ b o, h0.get? b = some o → s.heap.get? b = some o) → ∀ b o, h0.get? b = some o → s'.heap.get? b = some o := fun hm hkp b o e =>
    hm.heap b o (fun hb => by rw [hw0 b hb] at e; cases e) (hkp b o e)
  intro k
  induction k with
  | zero =>
    intro i s hk' hi hst hkp ⟨L, es, ep, t, hS, g⟩ hR
    obtain rfl : i = n := by omega
    refine codeAny_builtin F.entry_set_update_loop ?_
    rw [Around.under_plainId F.plain_set_update_loop _]
    show wpAny _ A.in1 (pyNext (.ref I) >>= _) _ _ s
    refine wpAny_bind (W.done s _ _ hst fun s' hm => ?_)
    have kp' := moved hm hkp
    show wpAny _ A.in1 (ret Value.none) _ _ s'
    exact wpAny_pure (hR s' L es ep t (hm.mono inc) (hS.kept (fun o e => hm.heap S o hSw e) fun p hp => (hk p (g.sub p hp)).kept kp') g kp')
  | succ k ih =>
    intro i s hk' hi hst hkp ⟨L, es, ep, t, hS, g⟩ hR
    have hlt : i < n := by omega
    refine codeAny_builtin F.entry_set_update_loop ?_
    rw [Around.under_plainId F.plain_set_update_loop _]
    show wpAny _ A.in1 (pyNext (.ref I) >>= _) _ _ s
    refine wpAny_bind (W.item i s _ _ hlt hst fun v s' hP hst' hm => ?_)
    obtain ⟨p, hp, rfl⟩ := hval i v hP
    have kp' := moved hm hkp
    have hS' : SetN w s'.heap S L es ep t := hS.kept (fun o e => hm.heap S o hSw e) fun q hq => (hk q (g.sub q hq)).kept kp'
    have hx : KyAt s'.heap p.2 p.1 := (hk p (List.mem_of_getElem? hp)).kept kp'
    show wpAny _ A.in1 (holding [Value.ref p.1] (setAdd S (.ref p.1)) >>= _) _ _ s'
    refine wpAny_bind (wpAny_holding ?_)
    unfold setAdd
    refine wpAny_holding ?_
    refine wpAny_bind ((nestedKind P w).pyHash hu hx.kind ?_)
    refine set_add (s := { s' with toks := s'.toks + p.2.draws }) hS' hx hu (by have := g.len; omega) fun b h' L' es' ep' t' sb hS2 c1 c2 => ?_
    have g' : Gath ks (i + 1) L' := by
      by_cases c : p.2 ∈ L.map (·.2)
      · rw [c1 c]; exact g.same hp c
      · exact g.more hp (c2 c)
    have kp2 : ∀ b o, h0.get? b = some o → h'.get? b = some o := fun b o e => (sb.2 b (fun z => by rw [z, hS0] at e; cases e)).trans (kp' b o e)
    refine wpAny_pure ⟨plainId_quiet F.plain_set_update_loop _, ih (i + 1) _ (by omega) hlt (W.frame _ s' _ _ hst' (Nat.le_add_right _ _) fun b hb o e => ?_) kp2 ⟨L', es', ep', t', hS2, g'⟩ fun s'' L2 es2 ep2 t2 hm'' hS'' g'' kp'' => ?_⟩
    · rw [sb.2 b (fun h : b = S => hSf (by rw [← h]; exact hb))]; exact e
    · refine hR s'' L2 es2 ep2 t2 (Moved.trans W.gtrans ((hm.mono inc).then_heap (Nat.le_add_right _ _) fun b o hb e => ?_) hm'') hS'' g'' kp''
      rw [sb.2 b (fun h : b = S => hb (by rw [h]; exact List.mem_cons_self))]; exact e
/-- the object that set() lays -/
abbrev freshSet (w : World) : Obj := { cls := .type "set", dict := none, data := .set #[] 0 (.fresh 0 0 (!w.params.followText "set-order")) }
set_option maxRecDepth 100000 in
set_option maxHeartbeats 6400000 in
/-- set(xs), xs a list -/
theorem set_of_list {l : Addr} {items : Array Value} (ks : List (Addr × NestedKey)) {Q : Value → Shared → Prop} (hh : A.handled = none) (hl : s.heap.IsList l items) (hit : items.toList = ks.map fun p => Value.ref p.1)
    (hk : ∀ p ∈ ks, KyAt s.heap p.2 p.1) (hfew : ks.length ≤ 180) (hu : A.units + 64 < cLine)
    (h : ∀ (h' : Heap) (tk : Nat) L es ep t, SetN w h' s.heap.objs.size L es ep t → Gath ks ks.length L → (∀ b o, s.heap.get? b = some o → h'.get? b = some o) → Q (.ref s.heap.objs.size) { s with heap := h', toks := tk }) :
    wpAny (model P w) A (call (.type "set") [.ref l]) Q E s := by
  have many : items.size = ks.length := by rw [← Array.length_toList, hit, List.length_map]
  have hlS : l < s.heap.objs.size := let ⟨ol, hol, _⟩ := hl; Heap.lt_size hol
  have none_of : ∀ b, s.heap.objs.size ≤ b → s.heap.get? b = none := fun b hb => by
    cases q : s.heap.get? b with
    | none => rfl
    | some o => exact absurd (Nat.lt_of_lt_of_le (Heap.lt_size q) hb) (Nat.lt_irrefl _)
  have hval : ∀ (i : Nat) (v : Value), items[i]? = some v → ∃ p, ks[i]? = some p ∧ v = .ref p.1 := fun i v hv => by
    have q : items.toList[i]? = some v := by rw [Array.getElem?_toList]; exact hv
    rw [hit, List.getElem?_map] at q
    cases hq : ks[i]? with
    | none => rw [hq] at q; cases q
    | some p => rw [hq] at q; exact ⟨p, rfl, (Option.some.inj q).symm⟩
  have hS : (s.heap.push (freshSet w)).get? s.heap.objs.size = some (freshSet w) := Heap.get?_push_size _ rfl
  obtain ⟨c, tl, hmro⟩ := F.called_set.mro
  have hmade := F.called_set.made
  have hsub := F.called_set.sub
  refine wpAny_call (codeAny_of_tree ?_)
  show wpAny _ _ (callAny (.type "set") _) _ _ _
  refine wpAny_pure ⟨Code.quiet_builtin _ (by decide +kernel), codeAny_builtin F.entry_type_call ?_⟩
  rw [Around.under_plain (weight_type_call_type "set" [.ref l] []) rfl]
  have h1 := F.called_set.notType
  have h2 := F.called_set.canCreate
  have hct := F.typeCall_set_1 (.ref l)
  repeat (any_goals (first | assumption | wp_step))
  refine codeAny_mono (code_set_led1 (.ref l) (E := E) (Q₁ := fun obj s₁ => obj = .ref s.heap.objs.size ∧ s₁ = { s with heap := s.heap.push (freshSet w) }) ⟨rfl, rfl⟩) fun r s₁ hr => ?_
  cases r with
  | error e => exact hr
  | ok fl =>
    cases fl with
    | ret obj =>
      obtain ⟨rfl, rfl⟩ := hr
      have hT : Shared.TypeIs { s with heap := s.heap.push (freshSet w) } (.ref s.heap.objs.size) "set" := ⟨_, hS, rfl⟩
      have hli := F.called_set.init.lookup
      have hbi := F.called_set.init.bind (.ref s.heap.objs.size)
      repeat (any_goals (first | assumption | wp_step))
      refine codeAny_mono (codeAny_call_builtin (R := wants (fun r s₂ => r = .none ∧ ∃ h' tk L es ep t, s₂ = { s with heap := h', toks := tk } ∧ SetN w h' s.heap.objs.size L es ep t ∧ Gath ks ks.length L ∧ ∀ b o, s.heap.get? b = some o → h'.get? b = some o) E)
        F.called_set.init.plain F.entry_set_init (check_set_init_1 hT ?_)) fun r₂ s₂ hr₂ => ?_
      · obtain ⟨⟨ocls, odict, odata, oslots⟩, hol, hcl, nl, hdl⟩ := hl
        simp only at hcl hdl
        subst hcl; subst hdl
        have hol' : (s.heap.push (freshSet w)).get? l = some { cls := .type "list", dict := odict, data := .seq items nl, slots := oslots } := Heap.get?_push_of_some _ hol
        have hsls := F.sub_list_set
        have hslf := F.sub_list_frozenset
        have hne : (Value.type "list" == Value.type "dict") = false := by decide
        have hl1 : (s.heap.push (freshSet w)).IsList l items := ⟨_, hol', rfl, nl, rfl⟩
        unfold Builtin.«set.__init__» noKeywords Builtin.Frozenset.updateFrom
        generalize hPI : pyIter = PI
        wp_walk
        subst hPI
        refine wpAny_pyIter_list hl1 (wpAny_bind (wpAny_runValue ?_))
        have hh3 : A.in1.in1.in1.handled = none := by simp [hh]
        have hneI : l ≠ (s.heap.push (freshSet w)).objs.size := by rw [Heap.size_push]; exact Nat.ne_of_lt (Nat.lt_succ_of_lt hlS)
        have hSf : s.heap.objs.size ∉ [(s.heap.push (freshSet w)).objs.size, l] := by
          rw [Heap.size_push]
          simp only [List.mem_cons, List.not_mem_nil, or_false, not_or]
          exact ⟨Nat.ne_of_lt (Nat.lt_succ_self _), Nat.ne_of_gt hlS⟩
        refine gather ((Walks.list hh3 _ l hneI items).toS) s.heap.objs.size hSf ks many hfew hval s.heap hk (none_of _ (Nat.le_refl _)) (fun b hb => none_of b (by
            rw [List.mem_singleton.mp hb, Heap.size_push]
            exact Nat.le_succ _)) (by simp; omega) (items.size - 0) 0 _ (by omega) (Nat.zero_le _)
          ⟨⟨_, Heap.get?_push_size _ rfl, rfl, rfl⟩, (hl1.push _)⟩ (fun b o e => Heap.get?_push_of_some _ (Heap.get?_push_of_some _ e)) ?hS0 ?hR
        case hS0 => exact ⟨[], #[], 0, _, setN_new (Heap.get?_push_of_some _ hS), ⟨fun p hp => (by cases hp), fun j p hj => absurd hj (Nat.not_lt_zero _), Nat.le_refl _⟩⟩
        case hR =>
          intro s' L es ep t hm hS' g' hkp
          obtain ⟨h', g2, d', tk', os'⟩ := s'
          obtain rfl : g2 = s.gens := hm.gens
          obtain rfl : d' = s.drawn := hm.drawn
          obtain rfl : os' = s.os := hm.os
          show wpAny _ _ _ _ _ _
          refine wpAny_pure ?_
          show wpAny _ _ (ret Value.none) _ _ _
          rw [many] at g'
          exact wpAny_pure ⟨rfl, h', tk', L, es, ep, t, rfl, hS', g', hkp⟩
      · cases r₂ with
        | error e => exact hr₂
        | ok fl₂ =>
          cases fl₂ with
          | ret r =>
            obtain ⟨rfl, h', tk, L, es, ep, t, rfl, hS', g', hk'⟩ := hr₂
            repeat (any_goals (first | assumption | wp_step))
            exact h _ _ _ _ _ _ hS' g' hk'
          | _ => exact hr₂.elim
    | _ => exact hr.elim
end
end K61

end

section
set_option linter.all false
set_option maxRecDepth 100000
set_option maxHeartbeats 4000000
/-! K61, sets 6: the layer's rules: set(xs), sorted(found). -/
namespace K61
open PySem PySem.Spec PyProof.Rows L2
section
variable {P : Program} {w : World} {A : Around} {E : Value → Shared → Prop} {s : Shared}
/-- fewer than two values are sorted as they are -/
theorem sorts_short {vs : List Value} {ds : List PyData} (e : PySem.W.EachIs (fun v d => ∃ as, Reads s.heap v d as) vs ds) (hal : PySem.W.AllAlike ds) (hl : vs.length < 2) (hn : ∀ d ∈ ds, d ≠ .none) (hu : ∀ d, d ∈ ds → A.units + d.depth < cLine) :
    PySem.W.SortsAt P w A s (PySem.W.dataKind s.heap ds) vs := by
  refine ⟨fun v hv => ?_, PyProof.Rows.general', fun E x y a b Q ha hb hq => ?_, fun h2 => absurd h2 (by omega)⟩
  · obtain ⟨d, hd, as, r⟩ := e.left v hv
    exact ⟨_, PySem.W.dataKind_some hal hd r⟩
  · obtain ⟨d, as, hd, ra, rfl⟩ := PySem.W.dataKind_inv ha
    obtain ⟨d', as', hd', rb, rfl⟩ := PySem.W.dataKind_inv hb
    exact PySem.W.oneLt_alike (f := false) (fun h => by cases h) ra rb (hal d hd d' hd') (hn d hd) (Nat.lt_of_le_of_lt (Nat.add_le_add_left (Nat.min_le_left _ _) _) (hu d hd)) hq
theorem perm_map_inv {α β : Type} (f : α → β) {xs ys : List β} (p : xs.Perm ys) : ∀ l : List α, ys = l.map f → ∃ m : List α, xs = m.map f ∧ m.Perm l := by
  induction p with
  | nil => intro l e; cases l with
    | nil => exact ⟨[], rfl, .nil⟩
    | cons a l => cases e
  | cons x p ih =>
    intro l e
    cases l with
    | nil => cases e
    | cons a l =>
      rw [List.map_cons] at e
      injection e with e1 e2
      obtain ⟨m, h1, h2⟩ := ih l e2
      exact ⟨a :: m, by rw [List.map_cons, h1, e1], h2.cons a⟩
  | swap x y l0 =>
    intro l e
    match l, e with
    | a :: b :: l, e =>
      simp only [List.map_cons, List.cons.injEq] at e
      obtain ⟨rfl, rfl, rfl⟩ := e
      exact ⟨b :: a :: l, rfl, .swap _ _ _⟩
  | trans p q ih1 ih2 =>
    intro l e
    obtain ⟨m, h1, h2⟩ := ih2 l e
    obtain ⟨m2, h3, h4⟩ := ih1 m h1
    exact ⟨m2, h3, h4.trans h2⟩
def kd (p : Addr × NestedKey) : PyData := p.2.data
theorem intK_alone : ∀ (n : Nat) (k : NestedKey), intK n k = true → k.data ≠ .none := by
  intro n k h e
  cases k with
  | none => cases n <;> simp [intK] at h
  | num i => simp [NestedKey.data] at e
  | text x => simp [NestedKey.data] at e
  | tup ks => simp [NestedKey.data] at e
mutual
theorem data_depth : ∀ k : NestedKey, k.data.depth = k.depth
  | .none => rfl
  | .num _ => by simp [NestedKey.data, NestedKey.depth, PyData.depth]
  | .text _ => by simp [NestedKey.data, NestedKey.depth, PyData.depth]
  | .tup ks => by
    rw [NestedKey.data, PyData.depth, datas_depth ks, NestedKey.depth]
    try omega
theorem datas_depth : ∀ ks : List NestedKey, PyData.depthAll (NestedKey.datas ks) = NestedKey.depthAll ks
  | [] => rfl
  | k :: ks => by rw [NestedKey.datas, PyData.depthAll, data_depth k, datas_depth ks, NestedKey.depthAll]
end
theorem refs_each : ∀ {vs : List Value} {L : List (Addr × NestedKey)}, PySem.W.EachIs (fun v (p : Addr × NestedKey) => v = Value.ref p.1) vs L → vs = L.map fun p => Value.ref p.1
  | _, _, .nil => rfl
  | _, _, .cons h t => by rw [List.map_cons, h, refs_each t]
theorem sorted_setK {a : Addr} {L : List (Addr × NestedKey)} {es : Array (Int × Value)} {ep : Nat} {t : SetTable} {Q : Value → Shared → Prop} (R : SetN w s.heap a L es ep t) (hh : A.handled = none)
    (hr : ∀ p ∈ L, ∃ as, Reads s.heap (.ref p.1) p.2.data as) (hal : PySem.W.AllAlike (L.map kd)) (hso : PySem.W.Sortable (L.map kd) ∨ L.length < 2) (hu : A.units + 16 < cLine)
    (hQ : ∀ s' p (out : Array Value) (c : Nat) (L' : List (Addr × NestedKey)), (∀ b o, s.heap.get? b = some o → s'.heap.get? b = some o) → s'.gens = s.gens → s'.os = s.os → s.heap.objs.size ≤ p →
      s'.heap.get? p = some (seqObj "list" out c) → out.toList = L'.map (fun q => Value.ref q.1) → L'.Perm L → L'.Pairwise (fun q r => PySem.W.dataLt (kd r) (kd q) = false) → Q (.ref p) s') :
    wpAny (model P w) A (call (.builtin "sorted") [.ref a]) Q E s := by
  obtain ⟨o, ho, hex, hd⟩ := R.ob
  have hrl : es.toList.length = (rws w L).length := congrArg List.length R.rows
  have hsz : es.size = L.length := by rw [← Array.length_toList, hrl]; unfold rws; rw [List.length_map]
  have hfew := R.few
  refine Calls.call_function_entry kind_sorted plain_sorted entry_sorted (args_sorted1 _) ?_
  unfold Builtin.«sorted»
  refine wpAny_bind (m := checkCount "sorted" 1 1 _) (wpAny_pure ?_)
  refine wpAny_bind (collect_set (A := A.in1) hh ⟨o, ho, hex.1, hd⟩ R.fits (by unfold scanBound; omega) R.tab.asc R.led fun s1 vs k1 hz g1 o1 pm => ?_)
  have hes : es.toList.map (·.2) = L.map fun q => Value.ref q.1 := by
    rw [R.rows]
    unfold rws
    rw [List.map_map] <;> rfl
  rw [hes] at pm
  obtain ⟨L1, rfl, pm1⟩ := perm_map_inv _ pm L rfl
  have hlen1 : L1.length = L.length := pm1.length_eq
  refine wpAny_bind (wpAny_newList ?_ (by rw [sizeLine_eq, List.length_map]; omega))
  have hoL : (s1.heap.push (seqObj "list" (L1.map fun q => Value.ref q.1).toArray 0)).get? s1.heap.objs.size = some (seqObj "list" (L1.map fun q => Value.ref q.1).toArray 0) := Heap.get?_push_size _ rfl
  generalize hvs : (L1.map fun q => Value.ref q.1) = vs at hoL ⊢
  have ea : PySem.W.EachIs (fun v (p : Addr × NestedKey) => v = Value.ref p.1) vs L1 := by
    rw [← hvs]
    clear hvs hoL pm1 hlen1 pm
    induction L1 with
    | nil => exact .nil
    | cons p l ih => exact .cons rfl ih
  have hne : ∀ p ∈ L1, intK 8 p.2 = true := fun p hp => (R.key p (pm1.mem_iff.mp hp)).nums
  have hdep : ∀ p ∈ L1, (kd p).depth ≤ 8 := fun p hp => by
    show p.2.data.depth ≤ 8
    rw [data_depth]; exact intK_depth 8 _ (hne p hp)
  have keep : ∀ b o, s.heap.get? b = some o → (PySem.W.sortingHeap (s1.heap.push (seqObj "list" vs.toArray 0)) s1.heap.objs.size vs).get? b = some o := fun b u e => by
    have q := k1 b u e
    exact PySem.W.sortingHeap_old (Nat.ne_of_lt (Heap.lt_size q)) (Heap.get?_push_of_some _ q)
  have er : PySem.W.EachIs (fun v (p : Addr × NestedKey) => ∃ as, Reads (PySem.W.sortingHeap (s1.heap.push (seqObj "list" vs.toArray 0)) s1.heap.objs.size vs) v (kd p) as) vs L1 :=
    (PySem.W.each_mem ea).mono fun v p ⟨e, hm⟩ => by
      obtain ⟨as, r⟩ := hr p (pm1.mem_iff.mp hm)
      rw [e]
      exact ⟨as, PyProof.Rows.Reads.keeps (fun b o q => keep b o q) r⟩
  have hal1 : PySem.W.AllAlike (L1.map kd) := fun d hd d' hd' => hal d ((pm1.map kd).mem_iff.mp hd) d' ((pm1.map kd).mem_iff.mp hd')
  have hmem : ∀ d ∈ L1.map kd, d.depth ≤ 8 ∧ d ≠ .none := fun d hd => by
    obtain ⟨p, hp, rfl⟩ := List.mem_map.mp hd
    exact ⟨hdep p hp, intK_alone 8 _ (hne p hp)⟩
  have S : PySem.W.SortsAt P w A.in1.in1 { s1 with heap := PySem.W.sortingHeap (s1.heap.push (seqObj "list" vs.toArray 0)) s1.heap.objs.size vs } (PySem.W.dataKind (PySem.W.sortingHeap (s1.heap.push (seqObj "list" vs.toArray 0)) s1.heap.objs.size vs) (L1.map kd)) vs := by
    have eD := PySem.W.each_map (R := fun v d => ∃ as, Reads (PySem.W.sortingHeap (s1.heap.push (seqObj "list" vs.toArray 0)) s1.heap.objs.size vs) v d as) kd er
    have hU : ∀ d, d ∈ L1.map kd → A.in1.in1.units + d.depth < cLine := fun d hd => by
      have := (hmem d hd).1
      show A.units + 1 + 1 + d.depth < cLine
      omega
    rcases hso with h | h
    · refine PySem.W.SortsAt.data (s := { s1 with heap := _ }) eD hal1 ?_ hU
      rcases h with h | h
      · exact .inl fun d hd => h d ((pm1.map kd).mem_iff.mp hd)
      · exact .inr fun d hd => h d ((pm1.map kd).mem_iff.mp hd)
    · exact sorts_short (s := { s1 with heap := _ }) eD hal1 (by rw [ea.length]; omega) (fun d hd => (hmem d hd).2) hU
  refine wpAny_bind (wpAny_holding (wpAny_call_entry PyProof.Rows.slot_list_sort ⟨_, hoL, rfl⟩ PyProof.Rows.entry_list_sort (PySem.W.list_sort_vals (s := { s1 with heap := s1.heap.push (seqObj "list" vs.toArray 0) }) hoL S (by rw [ea.length, sizeLine_eq]; omega) ⟨.none, rfl, ?_⟩) (PyProof.Rows.args_list_sort _)))
  have eo := PySem.W.sortVals_data (h' := PySem.W.sortingHeap (s1.heap.push (seqObj "list" vs.toArray 0)) s1.heap.objs.size vs) false ea er hal1
  generalize hout : PySem.W.sortVals (PySem.W.dataKind (PySem.W.sortingHeap (s1.heap.push (seqObj "list" vs.toArray 0)) s1.heap.objs.size vs) (L1.map kd)) false vs vs = out at eo ⊢
  obtain ⟨c, hc⟩ := sortedHeap_at (vs := vs) (out := out.toArray) hoL
  refine wpAny_pure ⟨_, rfl, hQ _ s1.heap.objs.size out.toArray c (L1.mergeSort (PySem.W.dataLe false kd)) (fun b u e => ?_) g1 o1 hz hc ?_ ((List.mergeSort_perm _ _).trans pm1) ?_⟩
  · have q := k1 b u e
    have hlt := Heap.lt_size q
    show (sortedHeap (s1.heap.push (seqObj "list" vs.toArray 0)) s1.heap.objs.size vs out.toArray).get? b = some u
    rw [sortedHeap_old (Nat.ne_of_lt hlt) (by rw [size_push']; exact Nat.lt_succ_of_lt hlt)]
    exact Heap.get?_push_of_some _ q
  · show out = _
    clear hout hc
    exact refs_each eo
  · refine (PySem.W.sort_pairwise (le := PySem.W.dataLe false kd) (by unfold PySem.W.dataLe; exact PySem.W.sortLe_total _ false _) L1).imp fun {q r} h => ?_
    rw [PySem.W.dataLe_eq] at h
    simpa using h
end
section
variable {X : Cx}
/-- set(xs), xs a list of keys -/
def rSetOf (K : PySem.W.Frag) (w : World) : List V → Hp → VK → Prop := fun xs H Q => ∃ (l : Addr) (ks : List (Addr × NestedKey)), xs = [V.ref l] ∧ SqL K H l (ks.map fun p => V.ref p.1) ∧ (∀ p ∈ ks, Ky K H p.1 p.2) ∧ ks.length ≤ 180 ∧
  ∀ a L, H a = none → (∀ p ∈ L, p ∈ ks) → (∀ p ∈ ks, p.2 ∈ L.map (·.2)) → L.length ≤ ks.length → Q (.ref a) (upd H a (SetH w a L))
theorem refs_vals : ∀ {ks : List (Addr × NestedKey)} {us : List Value}, Vals (ks.map fun p => V.ref p.1) us → us = ks.map fun p => Value.ref p.1
  | [], _, .nil => rfl
  | p :: ks, _, .cons r t => by
    cases r
    rw [refs_vals t] <;> rfl
theorem vals_refs : ∀ (ks : List (Addr × NestedKey)), Vals (ks.map fun p => V.ref p.1) (ks.map fun p => Value.ref p.1)
  | [] => .nil
  | p :: ks => .cons rfl (vals_refs ks)
theorem cr_setOf (hc : X.calm = true) (hu : X.A.units + 64 < cLine) : CallR X (.type "set") (rSetOf X.K X.w) := by
  intro pins s σ H xs us Q I r h
  obtain ⟨l, ks, rfl, hl, hk, hf, q⟩ := h
  rw [Vals.ref1 r]
  obtain ⟨its, rv, pl, hz⟩ := I.list hl
  have hn : H s.heap.objs.size = none := I.hok.fresh (Nat.le_refl _)
  refine set_of_list (P := X.prog) (w := X.w) ks (I.ok.hd hc) pl.isList (by simpa using refs_vals rv) (fun p hp => (hk p hp).at I) hf (by omega) fun h' tk L es ep t R g k => ?_
  refine ⟨.ref s.heap.objs.size, upd H s.heap.objs.size (SetH X.w s.heap.objs.size L), I.laid (t' := tk) k (Nat.le_refl _) R.bare.obj, rfl, q _ L hn g.sub (fun p hp => ?_) g.len⟩
  obtain ⟨j, hj, e⟩ := List.mem_iff_getElem.mp hp
  exact g.all j p hj (by rw [← e]; exact List.getElem?_eq_getElem hj)
/-- sorted(set) -/
def rSortedK (K : PySem.W.Frag) (w : World) : List V → Hp → VK → Prop := fun vs H Q => ∃ (a : Addr) (L : List (Addr × NestedKey)), vs = [V.ref a] ∧ H a = some (SetH w a L) ∧ (∀ p ∈ L, Ky K H p.1 p.2) ∧
  PySem.W.AllAlike (L.map kd) ∧ (PySem.W.Sortable (L.map kd) ∨ L.length < 2) ∧
  ∀ (L' : List (Addr × NestedKey)) (p : Addr), L'.Perm L → (L'.map (·.2)).Nodup → L'.length ≤ 200 → L'.Pairwise (fun q r => PySem.W.dataLt (kd r) (kd q) = false) → H p = none → Q (.ref p) (upd H p (.lst (L'.map fun q => V.ref q.1)))
theorem cr_sortedK (hc : X.calm = true) (hu : X.A.units + 64 < cLine) : CallR X (.builtin "sorted") (rSortedK X.K X.w) := by
  intro pins s σ H vs us Q I r h
  obtain ⟨a, L, rfl, ha, hk, hal, hso, q⟩ := h
  obtain ⟨es, ep, t, R⟩ := set_of I ha hk
  rw [Vals.ref1 r]
  refine sorted_setK R (I.ok.hd hc) (fun p hp => Dp.reads I _ _ _ (hk p hp).dp rfl) hal hso (by omega) fun s' p out c L' k g o hp hg hout pm pw => ?_
  have hfew : L'.length ≤ 200 := by rw [pm.length_eq]; exact R.few
  have hlen : (L'.map fun q => V.ref q.1).length ≤ sizeLine := by rw [List.length_map, sizeLine_eq]; omega
  have hn : H p = none := I.hok.fresh hp
  have hv : Vals (L'.map fun q => V.ref q.1) out.toList := by rw [hout]; exact vals_refs L'
  have J : Inv X pins σ (upd H p (.lst (L'.map fun q => V.ref q.1))) { s with heap := s'.heap, gens := s'.gens, drawn := s'.drawn, toks := s'.toks } :=
    I.call (ch := []) (Un.laid k hp hn) (I.hok.laid k hp ⟨hlen, out.toList, c, hv, hg⟩) (by rw [g]; exact I.bare) (fun _ z => nomatch z)
  have e : s' = { s with heap := s'.heap, gens := s'.gens, drawn := s'.drawn, toks := s'.toks } := by
    cases s'
    cases s
    cases o
    rfl
  rw [e]
  exact ⟨.ref p, _, J, rfl, q L' p pm ((pm.map (·.2)).nodup_iff.mpr R.nd) hfew pw hn⟩
end
end K61

end

section
set_option linter.all false
set_option maxRecDepth 100000
set_option maxHeartbeats 4000000
/-! K61: {**d, k: v}. -/
namespace K61
open PySem PySem.Spec PyProof.Rows L2
section
variable {prog : Program} {w : World} {KK : Type} [DecidableEq KK] {knd : PySem.KeyKind prog w KK} {A : Around} {E : Value → Shared → Prop} {s : Shared}
/-- one pair of a known hash goes in -/
theorem put_pair {d : Addr} {ps : List (KK × Value)} {k : KK} {u v : Value} {Q : Unit → Shared → Prop} (hu : knd.is k u = true) (hm : s.heap.DictOf knd d ps) (hz : ps.length ≤ sizeLine)
    (hQ : ∀ h', h'.DictOf knd d (stored ps k v) → Heap.SameBut d s.heap h' → Q () { s with heap := h' }) : wpAny (model prog w) A (dictPut d (knd.hash k) u v) Q E s := by
  obtain ⟨o, es, ep, ho, hc, hd, hk, hp, hn⟩ := hm
  have hes : es.size ≤ sizeLine := by
    have e1 := hp.length
    rw [Array.length_toList] at e1
    omega
  unfold dictPut
  refine wpAny_bind (wpAny_dictFind_of hu ho hd hk ?_)
  have hix : (es.findIdx? fun e => knd.is k e.key) = ps.findIdx? fun kv => decide (kv.1 = k) := by
    rw [← hp.findIdx k]
    obtain ⟨l⟩ := es
    simp
  cases hi : es.findIdx? fun e => knd.is k e.key with
  | some i =>
    have hin := any_of_findIdx_some (hix ▸ hi)
    refine wpAny_updateDict ho hd (hQ _ ⟨_, _, ep, Heap.get?_update_self _ ho (Obj.isFreed_of_dict (Obj.data_mapDict hd _)), hc.mapDict _, Obj.data_mapDict hd _, hk.modify _ _, ?_, ?_⟩ (Heap.SameBut.update ..))
    · have hl : (es.toList.findIdx? fun e => knd.is k e.key) = some i := by
        rw [← hi]
        obtain ⟨l⟩ := es
        simp
      rw [stored, if_pos hin]
      have q := hp.modify hn hl v
      obtain ⟨l⟩ := es
      simpa using q
    · rw [stored, if_pos hin, keys_map_store]
      exact hn
  | none =>
    have hnot : k ∉ ps.map (·.1) := not_mem_of_findIdx_none (hix ▸ hi)
    have hany : ¬ (ps.any fun kv => decide (kv.1 = k)) = true := fun z => by
      obtain ⟨kv, hkv, he⟩ := List.any_eq_true.mp z
      exact hnot (List.mem_map.mpr ⟨kv, hkv, of_decide_eq_true he⟩)
    refine wpAny_updateDictKeys (hz := hes) ho hd (hQ _ ⟨_, _, ep + 1, Heap.get?_update_self _ ho (Obj.isFreed_of_dict (Obj.data_mapDictKeys hd _)), hc.mapDictKeys _, Obj.data_mapDictKeys hd _, hk.push hu _, ?_, ?_⟩ (Heap.SameBut.update ..))
    · rw [stored, if_neg hany]
      have q := hp.append hu (knd.hash k) v
      obtain ⟨l⟩ := es
      simpa using q
    · rw [stored, if_neg hany, List.map_append, List.nodup_append]
      refine ⟨hn, by simp, ?_⟩
      intro a ha b hb z
      rw [List.map_cons, List.map_nil, List.mem_singleton] at hb
      have e : a = k := z.trans hb
      exact hnot (e ▸ ha)
/-- the pairs of o go into d, one by one; no key is an object -/
theorem merge_pairs {d o : Addr} {ps more : List (KK × Value)} {Q : Unit → Shared → Prop} (hne : d ≠ o) (hoS : (o == sysModules) = false) (hflat : ∀ k u, knd.is k u = true → ∀ b, u ≠ .ref b)
    (hd : s.heap.DictOf knd d ps) (ho : s.heap.DictOf knd o more) (hz : ps.length + more.length ≤ sizeLine)
    (hQ : ∀ h', h'.DictOf knd d (merged ps more) → h'.DictOf knd o more → Heap.SameBut d s.heap h' → Q () { s with heap := h' }) : wpAny (model prog w) A (mergeMapping d (.ref o) false) Q E s := by
  obtain ⟨od, esd, epd, hod, hcd, hdd, hkd, hpd, hnd⟩ := id hd
  obtain ⟨oo, eso, epo, hoo, hco, hdo, hko, hpo, hno⟩ := id ho
  have hlen : more.length = eso.size := by
    rw [← hpo.length, Array.length_toList]
  unfold mergeMapping
  refine wpAny_bind (wpAny_isInstance ho.typeIs isSubtype_dict_dict ?_)
  dsimp only
  rw [if_pos rfl]
  refine wpAny_bind (wpAny_specialOf ho.typeIs F.slot_dict_iter.lookup ?_)
  refine wpAny_bind (wpAny_pure ?_)
  simp only [beq_self_eq_true]
  rw [if_neg (by rw [hoS]; exact Bool.false_ne_true)]
  have e0 := ho
  generalize hT : (do
      let size := (← dictEntries o).size
      let epoch ← dictEpoch o
      for i in List.range size do
        let some e := (← dictEntries o)[i]? | unsupported "dict.changed-during-merge"
        holding [e.key, e.val] do
          dictPut d e.hash e.key e.val
        if (← dictEpoch o) != epoch then unsupported "dict.changed-during-merge" : Sem Unit) = T
  have loop : wpAny (model prog w) A T Q E s := by
    subst hT
    refine wpAny_bind (wpAny_dictEntries hoo hdo ?_)
    refine wpAny_bind (wpAny_dictEpoch hoo hdo ?_)
    refine wpAny_bind ?_
    refine wpAny_forIn_list _ (fun rest _ s' => ∃ h' i, s' = { s with heap := h' } ∧ rest = (List.range eso.size).drop i ∧ i ≤ eso.size ∧ h'.DictOf knd d (merged ps (more.take i)) ∧ h'.get? o = some oo ∧ Heap.SameBut d s.heap h')
      _ ?_ ?_ _ _ ⟨s.heap, 0, rfl, rfl, Nat.zero_le _, by simpa [merged] using hd, hoo, Heap.SameBut.refl _ _⟩
    · rintro x rest b s' ⟨h', i, rfl, hr, hi, hd', hoo', hs'⟩
      have hlt : i < eso.size := by
        rcases Nat.lt_or_ge i eso.size with c | c
        · exact c
        · rw [List.drop_eq_nil_of_le (by simpa using c)] at hr
          cases hr
      rw [List.drop_eq_getElem_cons (by simpa using hlt)] at hr
      injection hr with hx hrest
      have hx' : x = i := by simpa using hx
      subst hx'
      refine wpAny_bind (wpAny_dictEntries hoo' hdo ?_)
      rw [Array.getElem?_eq_getElem hlt]
      obtain ⟨⟨k, v⟩, hkv⟩ : ∃ kv, more[x]? = some kv := ⟨more[x]'(by rw [hlen]; exact hlt), List.getElem?_eq_getElem _⟩
      obtain ⟨hkey, hval⟩ := hpo.get? (e := eso[x]) (by simp [hlt]) hkv
      obtain ⟨k', hkey', hhash⟩ := hko eso[x] (Array.getElem_mem hlt)
      have hk' : k' = k := knd.inj _ _ _ hkey' hkey
      subst hk'
      dsimp only
      rw [hhash, hval]
      have hzx : (merged ps (more.take x)).length ≤ sizeLine := by
        have e1 := merged_length_le ps (more.take x)
        rw [List.length_take] at e1
        omega
      refine wpAny_bind (wpAny_holding (put_pair hkey hd' hzx fun h2 hd2 hs2 => ?_))
      have hoo2 : h2.get? o = some oo := (hs2.2 o (Ne.symm hne)).trans hoo'
      refine wpAny_bind (wpAny_dictEpoch hoo2 hdo ?_)
      rw [if_neg (by simp)]
      exact wpAny_pure ⟨h2, x + 1, rfl, hrest, hlt, by rw [merged_take_succ ps more x (k', v) hkv]; exact hd2, hoo2, hs'.trans hs2⟩
    · rintro b s' ⟨h', i, rfl, hr, hi, hd', hoo', hs'⟩
      have hin : i = eso.size := by
        rcases Nat.lt_or_ge i eso.size with c | c
        · rw [List.drop_eq_getElem_cons (by simpa using c)] at hr
          cases hr
        · omega
      rw [hin, ← hlen, List.take_length] at hd'
      exact wpAny_pure (hQ h' hd' ⟨oo, eso, epo, hoo', hco, hdo, hko, hpo, hno⟩ hs')
  refine wpAny_bind (wpAny_dictEntries hod hdd ?_)
  split
  · refine wpAny_bind (wpAny_dictEntries hoo hdo ?_)
    refine wpAny_bind ?_
    rw [← Array.forIn_toList]
    refine wpAny_forIn_list _ (fun rest _ s' => s' = s ∧ ∀ e ∈ rest, e ∈ eso.toList) _ ?_ ?_ _ _ ⟨rfl, fun e h => h⟩
    · rintro x rest b s' ⟨rfl, hr⟩
      obtain ⟨k', hkey', hhash⟩ := hko x (Array.mem_toList_iff.mp (hr x List.mem_cons_self))
      have hf := hflat _ _ hkey'
      split
      · rename_i b hb
        exact absurd hb (hf b)
      · exact wpAny_pure ⟨rfl, fun e h => hr e (List.mem_cons_of_mem _ h)⟩
    · rintro b s' ⟨rfl, _⟩
      subst hT
      exact loop
  · subst hT
    exact loop
end
end K61

end

section
set_option linter.all false
set_option maxRecDepth 100000
set_option maxHeartbeats 4000000
/-! K61: {**d, k: v}, the rule. -/
namespace K61
open PySem PySem.Spec PyProof.Rows L2
theorem mix_flat {P : Program} {w : World} (k : Key) (u : Value) (h : (mixKind P w).is k u = true) : ∀ b, u ≠ .ref b := by
  rintro b rfl
  rcases keyIs_shape (show keyIs k (.ref b) = true from h) with ⟨i, t, rfl, e⟩ | ⟨x, t, rfl, e⟩
  · cases e
  · cases e
/-- {**put, k: z}; the three parts leave the heap as it is -/
def tDStar (te tk tv : TE) : TE := fun σ H Q => ∃ (a : Addr) (kvs : List (Key × V)) (k : Key) (z : V), H a = some (.dK kvs) ∧ kvs.length ≤ 1000 ∧
  (∀ H', Same H H' → te σ H' fun x H1 => x = .ref a ∧ H1 = H') ∧ (∀ H', Same H H' → tk σ H' fun x H1 => tv σ H1 fun y H2 => x = kV k ∧ y = z ∧ H2 = H') ∧
  ∀ p H', H p = none → Same H H' → H' p = some (.dK (putK kvs k z)) → Q (.ref p) H'
section
variable {X : Cx} {pos : Pos} {em ek ev : Expr} {te tk tv : TE}
theorem pe_dstar (hm : PE X em te) (hk : PE X ek tk) (hv : PE X ev tv) : PE X (.Dict [none, some ek] [em, ev] pos) (tDStar te tk tv) := by
  refine ⟨fun pins s σ H Q I h => ?_⟩
  rw [arm_eval_Dict]
  refine wpAny_bind (wpAny_standAt ?_)
  show wpAny _ _ (dictDisplay [(none, do let x ← eval em X.env; standAt pos; pure x), (some (eval ek X.env), do let x ← eval ev X.env; standAt pos; pure x)]) _ _ s
  unfold dictDisplay
  simp only [List.forIn_cons, List.forIn_nil, List.isEmpty_nil, if_true, pure_bind, bind_assoc, List.nil_append, List.length_cons, List.length_nil, List.isEmpty_cons, Bool.false_eq_true, if_false, show ((0 + 1 : Nat) == 17) = false from rfl]
  have hn := I.hok.fresh (Nat.le_refl s.heap.objs.size)
  have I1 := I.laid (a := s.heap.objs.size) (o := .dK []) (h' := s.heap.push { cls := .type "dict", data := .dict #[] }) (t' := s.toks) (fun _ _ q => Heap.get?_push_of_some _ q) (Nat.le_refl _) (dk_empty s.heap I.big)
  have sm1 : Same H (upd H s.heap.objs.size (.dK [])) := same_new hn
  refine wpAny_bind (wpAny_alloc ?_)
  -- the mapping
  obtain ⟨a, kvs, k, z, ha, hz, he, hkv, q⟩ := h
  refine wpAny_bind (wpAny_holding ?_)
  refine wpAny_bind (thn (hm.run pins _ σ _ _ I1 (he _ sm1)) fun u s2 ⟨x, H1, I2, rx, e1, e2⟩ => ?_)
  subst e1 e2
  cases rx
  refine wpAny_bind (wpAny_standAt (wpAny_pure ?_))
  have hap : s.heap.objs.size ≠ a := fun z => by
    rw [z, ha] at hn
    cases hn
  obtain ⟨zp, sp, vs0, r0, d0⟩ := dk_of I2.hok (upd_same (H := H) (a := s.heap.objs.size) (o := .dK []))
  cases r0
  obtain ⟨za, sa, vs, ra, da⟩ := dk_of I2.hok (sm1 _ _ ha)
  have hlv : vs.length ≤ 1000 := by rw [← ra.length]; exact hz
  obtain ⟨_, _, _, _, _, _, _, _, hnod⟩ := id da
  refine wpAny_bind (wpAny_onRaise (wpAny_tryCatch (wpAny_onRaise (wpAny_holding (merge_pairs (knd := mixKind X.prog X.w) hap sa mix_flat d0 da (by rw [List.length_nil, sizeLine_eq]; omega) fun h1 dd1 _ sb1 => ?_)))))
  rw [merged_nil_of_nodup vs hnod] at dd1
  have I3 : Inv X pins σ (upd (upd H s.heap.objs.size (.dK [])) s.heap.objs.size (.dK kvs)) { s2 with heap := h1 } :=
    d_write I2 (by rw [upd_same]; exact True.intro) sb1 (let ⟨q, _, _, hq, _⟩ := dd1; ⟨q, hq⟩) (dk_new (by rw [sizeLine_eq]; omega) sp ra dd1)
  have smx : Same H (upd (upd H s.heap.objs.size (.dK [])) s.heap.objs.size (.dK kvs)) := fun b o e => by
    rw [upd_ne (ne_of_none e hn), upd_ne (ne_of_none e hn)]
    exact e
  generalize hHx : upd (upd H s.heap.objs.size (.dK [])) s.heap.objs.size (.dK kvs) = Hx at I3 smx
  have hxp : Hx s.heap.objs.size = some (.dK kvs) := by rw [← hHx]; exact upd_same
  -- the written pair, in a dict of its own
  have hn2 := I3.hok.fresh (Nat.le_refl h1.objs.size)
  have hnH : H h1.objs.size = none := smx.free hn2
  have hpp : s.heap.objs.size ≠ h1.objs.size := fun z => by
    rw [← z, hxp] at hn2
    cases hn2
  have I4 := I3.laid (a := h1.objs.size) (o := .dK []) (h' := h1.push { cls := .type "dict", data := .dict #[] }) (t' := s2.toks) (fun _ _ q => Heap.get?_push_of_some _ q) (Nat.le_refl _) (dk_empty h1 I3.big)
  have sm4 : Same H (upd Hx h1.objs.size (.dK [])) := smx.trans (same_new hn2)
  have PP : PPs X pos [some ek] [ev] [(tk, tv)] := pps_cons hk hv pps_nil
  refine wpAny_bind (wpAny_holding (wpAny_subDict (knd := mixKind X.prog X.w) (s := { s2 with heap := h1 }) (Nat.succ_le_succ (Nat.zero_le _)) ?_))
  refine thn (PP.run pins _ σ _ (fun ps H' => match ps with | [(x, y)] => x = kV k ∧ y = z ∧ H' = upd Hx h1.objs.size (.dK []) | _ => False) I4 (hkv _ sm4)) fun ws s3 ⟨ps, H3, I5, rel, e0⟩ => ?_
  match ps, rel, e0 with
  | [(x, y)], rel, ⟨e1, e2, e3⟩ =>
    subst e1 e2 e3
    obtain ⟨rs, c, rk⟩ := carries_of (P := X.prog) (w := X.w) (kvs := [(k, y)]) rel
    obtain ⟨zq, sq, vq, rq, dq⟩ := dk_of I5.hok (upd_same (H := Hx) (a := h1.objs.size) (o := .dK []))
    cases rq
    refine ⟨rs, c, dq, fun h2 dd2 sb2 => ?_⟩
    have rk2 : KV (mergeK [] [(k, y)]) (merged [] rs) := rk.merge .nil
    have I6 : Inv X pins σ (upd (upd Hx h1.objs.size (.dK [])) h1.objs.size (.dK (mergeK [] [(k, y)]))) { s3 with heap := h2, toks := s3.toks + ws.length } :=
      d_write I5 (by rw [upd_same]; exact True.intro) sb2 (let ⟨q, _, _, hq, _⟩ := dd2; ⟨q, hq⟩) (dk_new (show 1 ≤ sizeLine by decide) sq rk2 dd2)
    have hp6 : upd (upd Hx h1.objs.size (.dK [])) h1.objs.size (.dK (mergeK [] [(k, y)])) s.heap.objs.size = some (.dK kvs) := by
      rw [upd_ne hpp, upd_ne hpp]
      exact hxp
    obtain ⟨_, _, vs6, r6, d6⟩ := dk_of I6.hok hp6
    obtain ⟨_, _, vs7, r7, d7⟩ := dk_of I6.hok (upd_same (H := upd Hx h1.objs.size (.dK [])) (a := h1.objs.size) (o := .dK (mergeK [] [(k, y)])))
    have l6 : vs6.length ≤ 1000 := by rw [← r6.length]; exact hz
    have l7 : vs7.length = 1 := by rw [← r7.length] <;> rfl
    refine wpAny_bind (wpAny_onRaise (wpAny_holding (merge_pairs (knd := mixKind X.prog X.w) hpp sq mix_flat d6 d7 (by rw [sizeLine_eq]; omega) fun h3 dd3 _ sb3 => ?_)))
    have r8 : KV (putK kvs k y) (merged vs6 vs7) := by
      have := KV.merge r7 r6
      simpa [mergeK, putK] using this
    have hl8 : (putK kvs k y).length ≤ sizeLine := by
      have := length_putK kvs k y
      rw [sizeLine_eq]; omega
    have I7 := d_write I6 (t' := s3.toks + ws.length) (ob := .dK (putK kvs k y)) (by rw [hp6]; exact True.intro) sb3 (let ⟨q, _, _, hq, _⟩ := dd3; ⟨q, hq⟩) (dk_new hl8 sp r8 dd3)
    refine wpAny_pure ⟨.ref s.heap.objs.size, _, I7, rfl, q _ _ hn (fun b o e => ?_) upd_same⟩
    have nb : b ≠ s.heap.objs.size := ne_of_none e hn
    have nb2 : b ≠ h1.objs.size := ne_of_none e hnH
    rw [upd_ne nb, upd_ne nb2, upd_ne nb2]
    exact smx _ _ e
end
end K61

end

section
set_option linter.all false
set_option maxRecDepth 100000
set_option maxHeartbeats 4000000
/-! K61, rules 2: in and not in of a tuple, < of data, sorted(tuple), a written dict's get, a staticmethod. -/
namespace K61
open PySem PySem.Spec PyProof.Rows L2
section
variable {X : Cx}
/-- x in t, x not in t: data, t a tuple -/
def rInT (K : PySem.W.Frag) : R2 := fun x y H Q => ∃ d ds, Dp K H x d ∧ Dp K H y (.tuple ds) ∧ SeqAt.shaped d = true ∧ SeqAt.shaped (.tuple ds) = true ∧ Q (.bl (ds.any fun z => PyData.eqv z d)) H
def rNotInT (K : PySem.W.Frag) : R2 := fun x y H Q => ∃ d ds, Dp K H x d ∧ Dp K H y (.tuple ds) ∧ SeqAt.shaped d = true ∧ SeqAt.shaped (.tuple ds) = true ∧ Q (.bl (!ds.any fun z => PyData.eqv z d)) H
theorem room_shaped {A : Around} {d : PyData} {ds : List PyData} (sd : SeqAt.shaped d = true) (hu : A.units + 65 < cLine) : A.units + 1 + min (PyData.depthAll ds) d.depth < cLine := room_in_shaped sd hu
theorem op_inT (hu : X.A.units + 65 < cLine) : OpR X (compareOp .In) (rInT X.K) := by
  intro pins s σ H x y v u Q I rx ry h
  obtain ⟨d, ds, hd, he, sd, se, q⟩ := h
  obtain ⟨as, r1⟩ := Dp.reads I d x v hd rx
  obtain ⟨bs, r2⟩ := Dp.reads I (.tuple ds) y u he ry
  exact SeqAt.in_tuple_reads r2 r1 (SeqAt.canLay_of_shaped (d := .tuple ds) se) (SeqAt.canLay_of_shaped sd) (room_shaped sd hu) ⟨.bl _, H, I, rfl, q⟩
theorem op_notInT (hu : X.A.units + 65 < cLine) : OpR X (compareOp .NotIn) (rNotInT X.K) := by
  intro pins s σ H x y v u Q I rx ry h
  obtain ⟨d, ds, hd, he, sd, se, q⟩ := h
  obtain ⟨as, r1⟩ := Dp.reads I d x v hd rx
  obtain ⟨bs, r2⟩ := Dp.reads I (.tuple ds) y u he ry
  exact SeqAt.notIn_tuple_reads r2 r1 (SeqAt.canLay_of_shaped (d := .tuple ds) se) (SeqAt.canLay_of_shaped sd) (room_shaped sd hu) ⟨.bl _, H, I, rfl, q⟩
/-- x < y, data that are alike -/
def rLtD (K : PySem.W.Frag) : R2 := fun x y H Q => ∃ d e, Dp K H x d ∧ Dp K H y e ∧ PySem.W.alike d e = true ∧ d ≠ .none ∧ d.depth ≤ 32 ∧ Q (.bl (PySem.W.dataLt d e)) H
theorem op_ltD (hu : X.A.units + 64 < cLine) : OpR X (compareOp .Lt) (rLtD X.K) := by
  intro pins s σ H x y v u Q I rx ry h
  obtain ⟨d, e, hd, he, ha, hn, hz, q⟩ := h
  obtain ⟨as, r1⟩ := Dp.reads I d x v hd rx
  obtain ⟨bs, r2⟩ := Dp.reads I e y u he ry
  exact PySem.W.lt_data r1 r2 ha hn (by omega) ⟨.bl _, H, I, rfl, q⟩
end
/-! ### sorted of a tuple of ints -/
section
variable {P : Program} {w : World} {A : Around} {E : Value → Shared → Prop} {s : Shared}
theorem collect_tup {t : Addr} {vs : List Value} {Q : List Value → Shared → Prop} (ht : s.heap.IsTuple t vs.toArray) (hz : vs.length ≤ sizeLine)
    (h : Q vs { s with heap := (s.heap.push (seqObj "list" #[] 0)).update s.heap.objs.size (Obj.mapSeq (· ++ vs.toArray)) }) : wpAny (model P w) A (collect (.ref t)) Q E s := by
  obtain ⟨o, ho, hc, n, hd⟩ := id ht
  unfold collect
  refine wpAny_bind (wpAny_runValue (codeAny_builtin entry_proto_collect' ?_))
  show wpAny _ _ (newList [] >>= fun l => again (.builtin "list.__iadd__" ⟨[l, .ref t], []⟩)) _ _ s
  refine wpAny_bind (wpAny_newList (wpAny_pure ⟨Code.quiet_builtin _ (by decide +kernel), codeAny_builtin entry_list_iadd' ?_⟩))
  show wpAny _ _ (Builtin.List.listExtendWith (.ref s.heap.objs.size) (.ref t) (.ref s.heap.objs.size)) _ _ _
  unfold Builtin.List.listExtendWith
  have ho1 : (s.heap.push (seqObj "list" #[] 0)).get? t = some o := Heap.get?_push_of_some _ ho
  refine wpAny_bind (wpAny_typeOf (T := "tuple") ⟨o, ho1, hc⟩ ?_)
  rw [if_pos (by simp)]
  refine wpAny_bind (listItems_at ho1 hd ?_)
  refine wpAny_bind (listItems_at (xs := #[]) (n := 0) (Heap.get?_push_size _ rfl) rfl ?_)
  rw [if_neg (by simp)]
  refine wpAny_bind (listUpdate_at (xs := #[]) (n := 0) (Heap.get?_push_size _ rfl) rfl ?_ (Nat.zero_le _) (by simp only [Array.size_append, List.size_toArray, List.length_nil]; omega))
  refine wpAny_pure ?_
  refine wpAny_bind (wpAny_load (get?_update_seq (Heap.get?_push_size _ rfl) _) ?_)
  show wpAny _ _ (pure ((#[] : Array Value) ++ vs.toArray).toList) Q E _
  rw [show ((#[] : Array Value) ++ vs.toArray).toList = vs by simp]
  exact wpAny_pure h
theorem sorted_tupI {t : Addr} {vs : List Value} {ns : List Int} {Q : Value → Shared → Prop} (ht : s.heap.IsTuple t vs.toArray) (hI : IntsAre vs ns) (h64 : vs.length < 64)
    (h : ∀ (out : Array Value) (ns' : List Int), IntsAre out.toList ns' → ns'.Perm ns → ns'.Pairwise (· ≤ ·) → Q (.ref (s.heap.objs.size + 1)) { s with heap := sortedAll s.heap vs out }) :
    wpAny (model P w) A (call (.builtin "sorted") [.ref t]) Q E s := by
  refine Calls.call_function_entry kind_sorted plain_sorted entry_sorted (args_sorted1 _) ?_
  unfold Builtin.«sorted»
  refine wpAny_bind (m := checkCount "sorted" 1 1 _) (wpAny_pure ?_)
  refine wpAny_bind (collect_tup ht (by rw [sizeLine_eq]; omega) ?_)
  refine wpAny_bind (wpAny_newList ?_)
  have hsz : ((s.heap.push (seqObj "list" #[] 0)).update s.heap.objs.size (Obj.mapSeq (· ++ vs.toArray))).objs.size = s.heap.objs.size + 1 := by rw [Heap.size_update, size_push']
  have hoL : (((s.heap.push (seqObj "list" #[] 0)).update s.heap.objs.size (Obj.mapSeq (· ++ vs.toArray))).push (seqObj "list" vs.toArray 0)).get? (s.heap.objs.size + 1) = some (seqObj "list" vs.toArray 0) := by
    rw [← hsz] <;> exact Heap.get?_push_size _ rfl
  show wpAny _ _ _ _ _ { s with heap := ((s.heap.push (seqObj "list" #[] 0)).update s.heap.objs.size (Obj.mapSeq (· ++ vs.toArray))).push (seqObj "list" vs.toArray 0) }
  rw [hsz]
  refine wpAny_bind (wpAny_holding (wpAny_call_entry PyProof.Rows.slot_list_sort ⟨_, hoL, rfl⟩ PyProof.Rows.entry_list_sort (list_sort_tree hoL hI h64 fun out ns' a1 a2 a3 => ⟨.none, rfl, ?_⟩) (args_list_sort _)))
  exact wpAny_pure ⟨_, rfl, h out ns' a1 a2 a3⟩
end
section
variable {X : Cx}
def rSortT (K : PySem.W.Frag) : List V → Hp → VK → Prop := fun vs H Q => ∃ (a : Addr) (ns : List Int), vs = [.ref a] ∧ SqT K H a (ns.map V.int) ∧ ns.length < 64 ∧
  ∀ (ns' : List Int) (p : Addr), ns'.Perm ns → ns'.Pairwise (· ≤ ·) → H p = none → Q (.ref p) (upd H p (.lst (ns'.map V.int)))
theorem cr_sortT : CallR X (.builtin "sorted") (rSortT X.K) := by
  intro pins s σ H vs us Q I r h
  obtain ⟨a, ns, rfl, hs, h64, q⟩ := h
  obtain ⟨its, rv, ht, _⟩ := I.tuple hs
  rw [Vals.ref1 r]
  have hi := rv.ints
  refine sorted_tupI ht hi (by rw [hi.length]; exact h64) fun out ns' h1 h2 h3 => ?_
  obtain ⟨ep, he'⟩ := PyProof.Rows.sortedAll_at s.heap its out
  have hlen : (ns'.map V.int).length ≤ sizeLine := by
    rw [List.length_map, h2.length_eq, sizeLine_eq]
    omega
  have I2 : Inv X _ σ (upd H (s.heap.objs.size + 1) (.lst (ns'.map V.int))) { s with heap := sortedAll s.heap its out } := I.laid (t' := s.toks) (fun _ _ => PyProof.Rows.sortedAll_old) (Nat.le_succ _) ⟨hlen, out.toList, ep, vals_of_ints h1, he'⟩
  exact ⟨.ref _, _, I2, rfl, q ns' _ h2 h3 (I.hok.fresh (Nat.le_succ _))⟩
/-! ### d.get(k, x), d a written dict, k one of its keys -/
def tKGet (K : PySem.W.Frag) (d : Addr) (td ty tx : TE) : TE := fun σ H Q => td σ H fun x H1 => x = .ref d ∧ ty σ H1 fun y H2 => tx σ H2 fun _ H3 => ∃ (z : Str) (u0 : Value) (v0 : V), y = .str z ∧ PySem.W.nsIn K d z = some (some u0) ∧ RelV v0 u0 ∧ Q v0 H3
theorem pe_kget {d : Addr} {es : Array DictEntry} {n : Nat} {o e f : Expr} {td ty tx : TE} {apos cpos : Pos} (D : KDict X.K X.w d es n) (ho : PE X o td) (he : PE X e ty) (hf : PE X f tx) (m : M2 X o "get" apos e f cpos) :
    PE X (.Call (.Attribute o "get" apos) [e, f] [] cpos) (tKGet X.K d td ty tx) := by
  refine ⟨fun pins s σ H Q I h => ?_⟩
  refine wpAny_Call_method m.base m.few m.line PySem.F.plainAttrs_dict PySem.F.slot_dict_get PySem.F.type_dict_get (thn (ho.run pins s σ H _ I h) fun u s1 ⟨x, H1, I1, rx, ex, q1⟩ => ?_)
  subst ex
  obtain rfl : u = Value.ref d := rx
  refine ⟨kd_type D I1, fun b eb => ?_, ?_⟩
  · injection eb with eb
    subst eb
    exact ⟨_, I1.kIn _ _ D.at_, rfl⟩
  rw [m.trees]
  refine Calls.callWith_builtin rfl (Calls.evalArgs_plain (Calls.spliced_cons (thn (he.run pins s1 σ H1 _ I1 q1) fun iv s2 ⟨y, H2, I2, ry, q2⟩ =>
    Calls.spliced_cons (thn (hf.run pins s2 σ H2 _ I2 q2) fun fv s3 ⟨z0, H3, I3, rz, z, u0, v0, ey, ez, r0, q3⟩ => Calls.spliced_nil ?_))))
  subst ey
  obtain ⟨t, rfl⟩ := ry
  refine call_meetsIn PySem.F.slot_dict_get (kd_type D I3) PySem.F.entry_dict_get (PySem.F.args_dict_get_3 _ _ _) (meets_dict_get_default (strKind X.prog X.w) d (PySem.strKind_is X.prog X.w z t) D.low fv) ⟨_, PySem.W.mapOf_K (prog := X.prog) I3.kIn D.at_ D.lit, ?_⟩
  rw [PySem.W.find_K D.at_ ez]
  exact ⟨v0, H3, I3.tok _, r0, q3⟩
/-! ### C.m(..), m a staticmethod -/
structure StM (K : PySem.W.Frag) (C : Addr) (m : Str) (p g : Addr) : Prop where
  rd : PySem.W.readsIn K C (.type "type") = true
  ga : PySem.W.specialIn K (.ref C) "__getattribute__" = some (some (.builtin "type.__getattribute__"))
  at_ : PySem.W.findCls K (.ref C) (.type "type") m = some (.get (.builtin "staticmethod.__get__") (.ref p) .none (.ref C))
  rc : ∃ rest, PySem.W.recIn K p "staticmethod" = some (.ref g :: rest)
  kp : PySem.W.keepIn K (.ref g) = true
def tStM (C : Addr) (sp : Sp) (t : TA) : TE := fun σ H Q => t σ H fun vs H1 => sp vs H1 Q C8.E0
theorem pe_stm {pl : Sem Bool} {k : Nat} {C p g : Addr} {m : Str} {fd : FuncData} {ps : List Str} {sp : Sp} {o e : Expr} {es : List Expr} {t : TA} {apos pos : Pos} (st : StM X.K C m p g) (F : FnOk X.prog X.w X.K X.mg X.base C8.CX0 k g fd ps sp) (hr : Room k X.A) (hb : Binds X.K fd ps [])
    (ho : PE X o (tC (.ref C))) (ha : PA X (e :: es) t) (hst : starEach (e :: es) X.env = (false, eval e X.env) :: starEach es X.env := by rfl) (hpl : (backTo pos (starEach es X.env)).any (·.1) = false := by rfl)
    (ht : eval (.Call (.Attribute o m apos) (e :: es) [] pos) X.env = (do
      let ov ← eval o X.env
      standAt apos.atName
      let (f, first) ← holding [ov] (getMethod ov m pl)
      callWith pos f first (backTo pos (starEach (e :: es) X.env)) (backToKw pos (keywordEach [] X.env))) := by rfl) :
    PE X (.Call (.Attribute o m apos) (e :: es) [] pos) (tStM C sp t) := by
  refine ⟨fun pins s σ H Q I h => ?_⟩
  refine PySem.W.methodCall_KW (pl := pl) (thn (ho.run pins s σ H (fun x H1 => x = .ref C ∧ H1 = H) I ⟨rfl, rfl⟩) fun u s1 ⟨x, H1, I1, rx, ex, eh⟩ => ?_) ht
  subst ex eh
  obtain rfl : u = Value.ref C := rx
  obtain ⟨rest, hp⟩ := st.rc
  refine PySem.W.method_cls I1.kIn st.ga ?_
  refine PySem.W.cls_bind I1.kIn st.rd st.at_ ?_
  have I2 : Inv X pins σ H1 { s1 with toks := s1.toks + 1 } := I1.tok _
  refine wpAny_call (PySem.W.sm_get (s := { s1 with toks := s1.toks + 1 }) I2.kIn hp (PySem.W.handed_on rfl ?_))
  refine PySem.W.callWith_K (first := []) (h₀ := X.base) I.ok.mod.kin st.kp (thn (ha.run pos pins _ σ H1 _ I2 h) fun us s2 ⟨vs, H2, I3, r, q2⟩ => ⟨I3.kIn, ?_⟩) hst hpl
  exact run_fn (us := us) F hr hb .nil C8.pass0 I3 r (by rw [List.append_nil]; exact q2)
end
end K61

end

section
set_option linter.all false
set_option maxRecDepth 100000
set_option maxHeartbeats 4000000
/-! K61: for a, b in zip(text, list). -/
namespace K61
open PySem PySem.Spec PyProof.Rows L2
theorem lt_five {n m : Nat} (h : n + 4 < m) : n + 2 < m ∧ n + 3 < m ∧ n < m ∧ n + 1 < m := by omega
theorem ne_four {n : Nat} : n ≠ n + 4 ∧ n + 1 ≠ n + 4 := by omega
/-- the signs of a text and the items of the list at a, in new pairs -/
def ItzS (K : PySem.W.Frag) (x : Str) (a : Addr) : It :=
  ⟨fun i H => ∃ (c : Nat) (ys : List V) (y : V), x.cps[i]? = some c ∧ SqL K H a ys ∧ ys[i]? = some y,
    fun i H v H' => ∃ T c y, v = .ref T ∧ H T = none ∧ H' = upd H T (.tup [.str ⟨#[c]⟩, y]) ∧ x.cps[i]? = some c ∧ ∀ ys, SqL K H a ys → ys[i]? = some y,
    fun i H => ∃ ys : List V, SqL K H a ys ∧ i ≤ x.cps.size ∧ i ≤ ys.length ∧ (i = x.cps.size ∨ i = ys.length)⟩
theorem turn_zipS {P : Program} {w : World} {K : PySem.W.Frag} {elts : List Expr} {kk : Nat} {tpos : Pos} {N a : Addr} {x : Str} {t : Tok} (ha : a < N) :
    Turn P w K (.Tuple elts kk tpos) (ItzS K x a) [N + 4, N + 2, N + 3, N, N + 1] (N + 4) (fun i h => IsZip h (N + 4) (N + 2) (N + 3) .none ∧ IsTupOf2 h (N + 2) (.ref N) (.ref (N + 1)) ∧ (∃ u v, IsTupOf2 h (N + 3) u v) ∧
      h.IsStrIter N "str_ascii_iterator" x t i ∧ h.IsListIter (N + 1) a i) where
  mem := by simp
  obj := fun i h st c hc => by
    obtain ⟨hz, hTI, ⟨u, v, hTO⟩, ⟨o1, e1, _, d1⟩, ⟨o2, e2, _, d2⟩⟩ := st
    have e' : c = N + 4 ∨ c = N + 2 ∨ c = N + 3 ∨ c = N ∨ c = N + 1 := by simpa using hc
    rcases e' with q | q | q | q | q
    · rw [q]; exact ⟨_, hz, fun v q => nomatch q⟩
    · rw [q]; exact ⟨_, hTI, fun v q => nomatch q⟩
    · rw [q]; exact ⟨_, hTO, fun v q => nomatch q⟩
    · rw [q]; exact ⟨o1, e1, fun v q => by rw [d1] at q; cases q⟩
    · rw [q]; exact ⟨o2, e2, fun v q => by rw [d2] at q; cases q⟩
  keep := fun i h h' st k => by
    obtain ⟨hz, hTI, ⟨u, v, hTO⟩, ⟨o1, e1, r1⟩, h2⟩ := st
    exact ⟨k (N + 4) (by simp) _ hz, k (N + 2) (by simp) _ hTI, ⟨u, v, k (N + 3) (by simp) _ hTO⟩, ⟨o1, k N (by simp) _ e1, r1⟩, h2.at fun o q => k (N + 1) (by simp) o q⟩
  item := by
    intro X hP hw hK hc i pins s σ H E I hf st hg
    subst hP hw hK
    obtain ⟨hz, hTI, ⟨u0, v0, hTO⟩, h1, h2⟩ := st
    obtain ⟨c, ys, y, hx, hqy, hy⟩ := hg
    obtain ⟨its, rv, p, _⟩ := I.list hqy
    have hlt1 : i < x.cps.size := (Array.getElem?_eq_some_iff.mp hx).1
    have hlt2 : i < its.toArray.size := by
      rw [List.size_toArray, ← rv.length]
      exact (List.getElem?_eq_some_iff.mp hy).1
    have hh : X.A.in1.handled = none := I.ok.hd hc
    have D1 := Draws.strAscii (prog := X.prog) (w := X.w) (A := X.A.in1) hh N x t
    have D2 := Draws.list (prog := X.prog) (w := X.w) (A := X.A.in1) hh (N + 1) a (Nat.ne_of_lt (Nat.lt_succ_of_lt ha)) its.toArray
    have S : ZipSep2 (N + 4) (N + 2) (N + 3) N (N + 1) [N] [N + 1, a] := zip_sep2 (fp1 := []) (fp2 := [a]) (fun b hb => by cases hb) (fun b hb => by rw [List.mem_singleton.mp hb]; exact ha)
    have hzl : (N + 4 : Nat) < s.heap.objs.size := Heap.lt_size hz
    refine wpAny_pyNext_zipD2_item S D1 D2 hz hTI hTO h1 ⟨h2, p.isList⟩ hlt1 hlt2 fun x1 x2 h' tk p1 p2 z' TO' h1' h2' hT hsz hk => ?_
    obtain ⟨c', u', hc', rfl⟩ := p1
    have hcc : c' = c := by rw [hx] at hc'; exact (Option.some.inj hc').symm
    subst hcc
    obtain ⟨u2, hu2, ru2⟩ := rv.get hy
    have hx2 : x2 = u2 := by
      have q : its[i]? = some x2 := by simpa using p2
      rw [q] at hu2
      exact Option.some.inj hu2
    subst hx2
    refine ⟨_, rfl, wpAny_letOwnedTupleGo_zip (s := { s with heap := h', toks := tk }) z' fun h'' z'' sb => ?_⟩
    have hT2 : h''.get? s.heap.objs.size = some { cls := .type "tuple", data := .seq #[Value.str ⟨#[c']⟩ u', x2] } := (sb.2 _ (Nat.ne_of_gt hzl)).trans hT
    have new : ObjOk X.prog X.w (upd H s.heap.objs.size (.tup [.str ⟨#[c']⟩, y])) h'' s.heap.objs.size (.tup [.str ⟨#[c']⟩, y]) :=
      ⟨by show 2 ≤ sizeLine; decide, [Value.str ⟨#[c']⟩ u', x2], .cons ⟨u', rfl⟩ (.cons ru2 .nil), ⟨_, hT2, rfl, _, rfl⟩⟩
    have I1 : Inv X pins σ (upd H s.heap.objs.size (.tup [.str ⟨#[c']⟩, y])) { s with heap := h'', toks := tk } :=
      I.turnedNew (t' := tk) (ch := [N + 4, N + 2, N + 3, N, N + 1]) (fun b o hb q => (sb.2 b (fun q' => hb (by simp [q']))).trans (hk b o (fun q' => hb (by simp [q'])) (fun q' => hb (by simp [q'])) (fun q' => hb (by simp [q'])) (fun q' => hb (by simp [q'])) q)) hf (Nat.le_refl _) new
    refine ⟨.ref s.heap.objs.size, _, I1, rfl, ⟨_, c', y, rfl, I.hok.fresh (Nat.le_refl _), rfl, hx, fun l hl => by rw [I.list_inj hl hqy]; exact hy⟩, ⟨z'', ?_, ⟨_, _, (sb.2 _ S.TOz).trans TO'⟩, ?_, ?_⟩, fun b hb => ?_⟩
    · exact (sb.2 _ S.TIz).trans (hk _ _ S.TIz S.TITO S.TIi1 S.TIi2 hTI)
    · obtain ⟨o, ho, r⟩ := h1'
      exact ⟨o, (sb.2 _ (ne_four (n := N)).1).trans ho, r⟩
    · exact h2'.1.at fun o q => (sb.2 _ (ne_four (n := N)).2).trans q
    · have hlt : b < s.heap.objs.size := by
        have e' : b = N + 4 ∨ b = N + 2 ∨ b = N + 3 ∨ b = N ∨ b = N + 1 := by simpa using hb
        have hN : (N + 4 : Nat) < s.heap.objs.size := hzl
        obtain ⟨g1, g2, g3, g4⟩ := lt_five hN
        rcases e' with q | q | q | q | q
        · rw [q]; exact hzl
        · rw [q]; exact g1
        · rw [q]; exact g2
        · rw [q]; exact g3
        · rw [q]; exact g4
      rw [upd_ne (Nat.ne_of_lt hlt)]
      exact (hf b hb).1
  done := by
    intro X hP hw hK hc i pins s σ H E I hf st hg
    subst hP hw hK
    obtain ⟨hz, hTI, ⟨u0, v0, hTO⟩, h1, h2⟩ := st
    obtain ⟨ys, hqy, le1, le2, hend⟩ := hg
    obtain ⟨its, rv, p, _⟩ := I.list hqy
    have l2 : its.toArray.size = ys.length := by rw [List.size_toArray, ← rv.length]
    have hh : X.A.in1.handled = none := I.ok.hd hc
    have D1 := Draws.strAscii (prog := X.prog) (w := X.w) (A := X.A.in1) hh N x t
    have D2 := Draws.list (prog := X.prog) (w := X.w) (A := X.A.in1) hh (N + 1) a (Nat.ne_of_lt (Nat.lt_succ_of_lt ha)) its.toArray
    have S : ZipSep2 (N + 4) (N + 2) (N + 3) N (N + 1) [N] [N + 1, a] := zip_sep2 (fp1 := []) (fp2 := [a]) (fun b hb => by cases hb) (fun b hb => by rw [List.mem_singleton.mp hb]; exact ha)
    refine wpAny_pyNext_zipD2_end S D1 D2 hz hTI hTO h1 ⟨h2, p.isList⟩ le1 (by rw [l2]; exact le2) (by rw [l2]; exact hend) fun h' tk hk => ⟨rfl, I.turnedL (t' := tk) (ch := [N + 4, N + 2, N + 3, N, N + 1]) (fun b o hb q =>
      hk b o (fun q' => hb (by simp [q'])) (fun q' => hb (by simp [q'])) (fun q' => hb (by simp [q'])) (fun q' => hb (by simp [q'])) q) hf⟩
  self := fun A i s Q E st h => wpAny_pyIter_zip st.1 h
def iZipS (K : PySem.W.Frag) (ta : TA) : TI := fun σ H R => ta σ H fun vs H1 => ∃ x a ys, vs = [.str x, .ref a] ∧ (x.cps.all (· < 128)) = true ∧ SqL K H1 a ys ∧ R (ItzS K x a) H1
theorem pi_zipS {X : Cx} {e e2 : Expr} {ta : TA} {p pos tpos : Pos} {elts : List Expr} {kk : Nat} (hg : Gl X "zip") (hm : X.mg "zip" = none) (ha : PA X [e, e2] ta)
    (hs : starEach [e, e2] X.env = (false, eval e X.env) :: starEach [e2] X.env := by rfl) (hpl : (backTo pos (starEach [e2] X.env)).any (·.1) = false := by rfl) :
    PI X (.Tuple elts kk tpos) (.Call (.Name "zip" p) [e, e2] [] pos) (iZipS X.K ta) := by
  refine ⟨fun pins s σ H R I h => ?_⟩
  refine Call_ (ld_blt I hg hm PyProof.Rows.boot_zip (PyProof.Rows.callWith_type1 (thn (ha.run pos pins s σ H _ I h) fun us s1 ⟨vs, H1, I1, r1, x, a, ys, ex, hx, hq, q⟩ => ?_) hs hpl))
  subst ex
  cases r1 with
  | cons r rr =>
    cases rr with
    | cons r' rr =>
      cases rr
      obtain ⟨t, rfl⟩ := r
      cases r'
      obtain ⟨its, rv, p1, _⟩ := I1.list hq
      have la : a < s1.heap.objs.size := p1.lt
      refine zip_begins2 (begins_text x t) (begins_list a its.toArray) trivial p1.isList fun h' hz hTI hTO h1 h2 hsz hk => wpAny_pyIter_zip hz ?_
      have I2 : Inv X pins σ H1 { s1 with heap := h' } := I1.kept (t' := s1.toks) hk
      have hit : strIterType x = "str_ascii_iterator" := by unfold strIterType; rw [if_pos hx]
      refine ⟨s1.heap.objs.size + 4, [s1.heap.objs.size + 4, s1.heap.objs.size + 2, s1.heap.objs.size + 3, s1.heap.objs.size, s1.heap.objs.size + 1], _, _, H1, rfl, I2, turn_zipS (x := x) (t := t) la, ⟨hz, hTI, ⟨_, _, hTO⟩, ⟨_, h1, by rw [hit], rfl⟩, ⟨_, h2, rfl, rfl⟩⟩, fun c hcm => ?_, q⟩
      have e' : c = s1.heap.objs.size + 4 ∨ c = s1.heap.objs.size + 2 ∨ c = s1.heap.objs.size + 3 ∨ c = s1.heap.objs.size ∨ c = s1.heap.objs.size + 1 := by simpa using hcm
      have hle : s1.heap.objs.size ≤ c := by
        rcases e' with z | z | z | z | z
        all_goals
          rw [z]
          first
          | exact Nat.le_refl _
          | exact Nat.le_add_right _ _
      exact I1.fpOk hle (I1.hok.fresh hle)
theorem walk_zipS {K : PySem.W.Frag} {x : Str} {a : Addr} {ys : List V} {n : Nat} (hn : n = min x.cps.size ys.length) : Walk (ItzS K x a) n (fun H => SqL K H a ys) (YPair (fun i => x.cps[i]?.map fun c => .str ⟨#[c]⟩) (fun i => ys[i]?)) := by
  subst hn
  refine ⟨fun i _ hi q => ?_, fun _ q => ⟨ys, q, by omega, by omega, by omega⟩, fun i H v H' _ q y => ?_⟩
  · have h1 : i < x.cps.size := by omega
    have h2 : i < ys.length := by omega
    exact ⟨x.cps[i], ys, ys[i], by simp [h1], q, by simp [h2]⟩
  · obtain ⟨T, c, z, h1, h2, h3, h4, h5⟩ := y
    exact ⟨T, .str ⟨#[c]⟩, z, h1, h2, h3, by show Option.map _ x.cps[i]? = _; rw [h4] <;> rfl, h5 ys q⟩
end K61

end

section
set_option linter.all false
set_option maxRecDepth 100000
set_option maxHeartbeats 4000000
/-! K61, base: the text by places; what stands behind the top. -/
namespace K61
open PySem PySem.Spec PyProof.Rows L2
def top (i : Nat) : Stmt := PySem.Challenge.pw_thincoins_k61_whole_towns_answer_as_thei.main.body.getD i (.Pass ⟨0, 0, 0, 0⟩)
def inC (i j : Nat) : Stmt := (C8.clsBody (top i)).getD j (.Pass ⟨0, 0, 0, 0⟩)
abbrev FnAt (K : PySem.W.Frag) (x q : Str) (st : Stmt) (dvs : List V) (f : Addr) (fd : FuncData) : Prop := FunD K x q (defArgs st) (defBody st) (defScope st) dvs [] f fd
/-- a def of the module -/
structure DefAt (K : PySem.W.Frag) (mg : Str → Option Value) (x : Str) (st : Stmt) (dvs : List V) : Prop where
  ex : ∃ f fd, FnAt K x x st dvs f fd ∧ mg x = some (.ref f)
/-- a method of the class at C -/
structure MetAt (K : PySem.W.Frag) (C : Addr) (x q : Str) (st : Stmt) : Prop where
  ex : ∃ f fd, FnAt K x q st [] f fd ∧ Meth K C x f
/-- the making of a class -/
structure MakAt (K : PySem.W.Frag) (mg : Str → Option Value) (C : Addr) (c q : Str) (st : Stmt) (dvs : List V) : Prop where
  ex : ∃ f fd, FnAt K "__init__" q st dvs f fd ∧ Mk K C f
  mgc : mg c = some (.ref C)
  cls : Cls K C
abbrev BindOk (x q : Str) (st : Stmt) (ps : List Str) : Prop := ∀ (kV doc pm : Value) (an : Option Addr) (cdv ct : Value) (us : List Value), us.length = ps.length →
  bindArgs (PySem.W.fnOf x q (defArgs st) (defBody st) (defScope st) .none kV doc pm an cdv ct) ⟨us, []⟩ = pure (ps.zip us)
abbrev BindOk1 (x q : Str) (st : Stmt) (ps : List Str) (n j : Nat) (m : Nat) : Prop := ∀ (T : Addr) (kV doc pm : Value) (an : Option Addr) (cdv ct : Value) (us its : List Value), us.length = n → its.length = m →
  ∃ k, bindArgs (PySem.W.fnOf x q (defArgs st) (defBody st) (defScope st) (.ref T) kV doc pm an cdv ct) ⟨us, []⟩ = seqItems? (.ref T) >>= k ∧ k (some its.toArray) = pure (ps.zip (us ++ its.drop j))
section
variable {P : Program} {w : World} {K : PySem.W.Frag} {mg : Str → Option Value} {base : Heap} {x q : Str} {st : Stmt} {N ps : List Str} {k : Nat} {sp : Sp} {C : Addr}
abbrev BodyOk (P : Program) (w : World) (K : PySem.W.Frag) (mg : Str → Option Value) (base : Heap) (q : Str) (st : Stmt) (N : List Str) (k : Nat) (sp : Sp) : Prop :=
  ∀ (f : Addr) (cdv : Value) (A : Around) (outer : List Env) (s : Shared) (H : Hp) (vs : List V) (Q : VK) (E : XK), Room k (A.deeper (envOfC q (defScope st) s.heap.objs.size f cdv)) → sp vs H Q E →
      ∃ t, PSs (cxOf C8.CX0 P w K mg base N q (defScope st) f cdv A outer s H E).nox (defBody st) t ∧ t { nx := fun _ H' => Q .non H', rt := Q } (start N vs) H
theorem fnD {f : Addr} {fd : FuncData} {dvs : List V} (F : FnAt K x q st dvs f fd) (S : FnScope N ps (defScope st)) (len : ∀ vs H Q E, sp vs H Q E → vs.length = ps.length) (hbody : BodyOk P w K mg base q st N k sp) : FnOk P w K mg base C8.CX0 (k + 1) f fd ps sp :=
  F.ok S len fun cdv A outer s H vs Q E hr h => by
    obtain ⟨t, h1, h2⟩ := hbody f cdv A outer s H vs Q E hr h
    exact ⟨t, h1.nox, h2⟩
theorem calD (D : DefAt K mg x st []) (hb : BindOk x x st ps) (S : FnScope N ps (defScope st)) (len : ∀ vs H Q E, sp vs H Q E → vs.length = ps.length) (hbody : BodyOk P w K mg base x st N k sp) : C8.Cal P w K mg base (k + 1) x sp [] := by
  obtain ⟨f, fd, F, m⟩ := D.ex
  exact ⟨f, fd, ps, [], fnD F S len hbody, m, F.kp, F.bindsN hb, .nil⟩
/-- called with n values, the defaults behind the first j fill up -/
theorem calD1 {dvs : List V} {n j : Nat} (D : DefAt K mg x st dvs) (hd : dvs ≠ []) (hn : n + (dvs.length - j) = ps.length) (hb : BindOk1 x x st ps n j dvs.length) (S : FnScope N ps (defScope st)) (len : ∀ vs H Q E, sp vs H Q E → vs.length = ps.length)
    (hbody : BodyOk P w K mg base x st N k sp) : C8.Cal P w K mg base (k + 1) x sp (dvs.drop j) := by
  obtain ⟨f, fd, F, m⟩ := D.ex
  obtain ⟨ds, hv, hB⟩ := F.binds1 n j hd hn hb
  exact ⟨f, fd, ps, ds, fnD F S len hbody, m, F.kp, hB, hv⟩
theorem metD (c : Cls K C) (D : MetAt K C x q st) (hb : BindOk x q st ps) (S : FnScope N ps (defScope st)) (len : ∀ vs H Q E, sp vs H Q E → vs.length = ps.length) (hbody : BodyOk P w K mg base q st N k sp) : C8.Met P w K mg base (k + 1) C x sp [] := by
  obtain ⟨f, fd, F, m⟩ := D.ex
  exact ⟨f, fd, ps, [], c, m, fnD F S len hbody, F.bindsN hb, .nil⟩
theorem makD {c : Str} (D : MakAt K mg C c q st []) (hb : BindOk "__init__" q st ps) (S : FnScope N ps (defScope st)) (len : ∀ vs H Q E, sp vs H Q E → vs.length = ps.length) (hbody : BodyOk P w K mg base q st N k sp) : C8.Mak P w K mg base (k + 1) c C sp [] := by
  obtain ⟨⟨f, fd, F, m⟩, hm, _⟩ := D
  exact ⟨f, fd, ps, [], m, fnD F S len hbody, hm, F.bindsN hb, .nil⟩
theorem makD1 {c : Str} {dvs : List V} {n j : Nat} (D : MakAt K mg C c q st dvs) (hd : dvs ≠ []) (hn : n + (dvs.length - j) = ps.length) (hb : BindOk1 "__init__" q st ps n j dvs.length) (S : FnScope N ps (defScope st)) (len : ∀ vs H Q E, sp vs H Q E → vs.length = ps.length)
    (hbody : BodyOk P w K mg base q st N k sp) : C8.Mak P w K mg base (k + 1) c C sp (dvs.drop j) := by
  obtain ⟨⟨f, fd, F, m⟩, hm, _⟩ := D
  obtain ⟨ds, hv, hB⟩ := F.binds1 n j hd hn hb
  exact ⟨f, fd, ps, ds, m, fnD F S len hbody, hm, hB, hv⟩
end
/-- what stands behind the top: K and mg; the classes Scan, Question, Town -/
structure Ev (w : World) (K : PySem.W.Frag) (mg : Str → Option Value) (cS cQ cT : Addr) : Prop where
  n_isinstance : mg "isinstance" = none
  n_len : mg "len" = none
  n_all : mg "all" = none
  n_sum : mg "sum" = none
  n_max : mg "max" = none
  n_min : mg "min" = none
  n_abs : mg "abs" = none
  n_sorted : mg "sorted" = none
  n_int : mg "int" = none
  n_bool : mg "bool" = none
  n_str : mg "str" = none
  n_list : mg "list" = none
  n_tuple : mg "tuple" = none
  n_set : mg "set" = none
  n_range : mg "range" = none
  n_enumerate : mg "enumerate" = none
  n_zip : mg "zip" = none
  i_MOST_ITEMS : ∃ t, mg "MOST_ITEMS" = some (.int 40 t)
  i_MOST_LOOKS : ∃ t, mg "MOST_LOOKS" = some (.int 3 t)
  i_LEAST_ITEMS : ∃ t, mg "LEAST_ITEMS" = some (.int 3 t)
  i_MOST_THINGS : ∃ t, mg "MOST_THINGS" = some (.int 40 t)
  i_MOST_VIEWS : ∃ t, mg "MOST_VIEWS" = some (.int 40 t)
  i_MANY_THIRDS : ∃ t, mg "MANY_THIRDS" = some (.int 4 t)
  s_NEGATION : ∃ t, mg "NEGATION" = some (.str "not" t)
  t_NAMES : ∃ a, mg "NAMES" = some (.ref a) ∧ ∀ H, SqT K H a [.str "x", .str "y", .str "z"]
  t_PLAIN : ∃ a, mg "PLAIN" = some (.ref a) ∧ ∀ H, SqT K H a [.str "tied", .str "same"]
  t_JOINED : ∃ a, mg "JOINED" = some (.ref a) ∧ ∀ H, SqT K H a [.str "and", .str "or"]
  t_LOOKS : ∃ a, mg "LOOKS" = some (.ref a) ∧ ∀ H, SqT K H a [.str "some", .str "all"]
  t_NOBODY : ∃ a b, mg "NOBODY" = some (.ref a) ∧ (∀ H, SqT K H a [.non, .non, .ref b]) ∧ ∀ H, SqT K H b []
  d_NEEDED : ∃ a es n, mg "NEEDED" = some (.ref a) ∧ KDict K w a es n ∧ ∀ x i, (x, i) ∈ [(("tied" : Str), (2 : Int)), ("same", 2), ("not", 3), ("and", 6), ("or", 6), ("some", 4), ("all", 4)] → ∃ t, PySem.W.nsIn K a x = some (some (.int i t))
  d_is_integer : DefAt K mg "is_integer" (top 11) []
  d_is_within : DefAt K mg "is_within" (top 12) []
  d_are_integers : DefAt K mg "are_integers" (top 13) []
  d_is_lot : DefAt K mg "is_lot" (top 14) []
  d_fixed : DefAt K mg "fixed" (top 16) []
  d_need_question : DefAt K mg "need_question" (top 29) [.str "question"]
  d_need_closed : DefAt K mg "need_closed" (top 30) []
  d_take_root : DefAt K mg "take_root" (top 31) []
  d_items_of : DefAt K mg "items_of" (top 32) []
  d_free_of : DefAt K mg "free_of" (top 33) []
  d_looks_of : DefAt K mg "looks_of" (top 34) []
  d_need_town : DefAt K mg "need_town" (top 38) [.str "town"]
  d_is_pair : DefAt K mg "is_pair" (top 39) []
  d_are_pairs : DefAt K mg "are_pairs" (top 40) []
  d_friends_in : DefAt K mg "friends_in" (top 42) []
  d_is_so : DefAt K mg "is_so" (top 43) []
  d_holds : DefAt K mg "holds" (top 44) []
  d_masks_of : DefAt K mg "masks_of" (top 48) []
  d_sight_of : DefAt K mg "sight_of" (top 49) []
  d_views_in : DefAt K mg "views_in" (top 50) []
  d_views_of_town : DefAt K mg "views_of_town" (top 51) []
  d_are_unlike : DefAt K mg "are_unlike" (top 52) []
  d_is_sight : DefAt K mg "is_sight" (top 53) []
  d_is_view : DefAt K mg "is_view" (top 54) []
  d_are_views : DefAt K mg "are_views" (top 55) []
  d_ties_of_third : DefAt K mg "ties_of_third" (top 57) []
  d_steps_of : DefAt K mg "steps_of" (top 58) []
  d_holds_by : DefAt K mg "holds_by" (top 59) []
  d_answer : DefAt K mg "answer" (top 60) []
  d_law_jar : DefAt K mg "_law_jar" (top 62) []
  d_law_draw : DefAt K mg "_law_draw" (top 63) []
  d_law_pick : DefAt K mg "_law_pick" (top 64) []
  d_law_bit : DefAt K mg "_law_bit" (top 65) []
  d_law_town : DefAt K mg "_law_town" (top 66) []
  d_law_size : DefAt K mg "_law_size" (top 67) []
  d_law_text : DefAt K mg "_law_text" (top 68) []
  d_law_atom : DefAt K mg "_law_atom" (top 69) []
  d_law_question : DefAt K mg "_law_question" (top 70) []
  d_law_holds : DefAt K mg "_law_holds" (top 71) []
  d_law_rows : DefAt K mg "_law_rows" (top 72) []
  d_law_copies : DefAt K mg "_law_copies" (top 73) []
  m_Scan : MakAt K mg cS "Scan" "Scan.__init__" (inC 18 0) []
  m_is_done : MetAt K cS "is_done" "Scan.is_done" (inC 18 1)
  m_ahead : MetAt K cS "ahead" "Scan.ahead" (inC 18 2)
  m_take : MetAt K cS "take" "Scan.take" (inC 18 5)
  m_take_one_of : MetAt K cS "take_one_of" "Scan.take_one_of" (inC 18 7)
  m_finish : MetAt K cS "finish" "Scan.finish" (inC 18 10)
  f_Scan : ∀ f ∈ (["told", "at"] : List Str), NoAttr K cS f
  m_Question : MakAt K mg cQ "Question" "Question.__init__" (inC 35 0) []
  m_negated : MetAt K cQ "negated" "Question.negated" (inC 35 2)
  m_both : MetAt K cQ "both" "Question.both" (inC 35 3)
  m_either : MetAt K cQ "either" "Question.either" (inC 35 4)
  m_read : ∃ p f fd, FnAt K "read" "Question.read" (inC 35 1) [] f fd ∧ StM K cQ "read" p f
  f_Question : ∀ f ∈ (["root", "text", "free", "looks", "is_closed"] : List Str), NoAttr K cQ f
  i_Question : C8.InsC K cQ
  m_Town : ∃ e, SqT K (fun _ => none) e [] ∧ MakAt K mg cT "Town" "Town.__init__" (inC 41 0) [.ref e]
  f_Town : ∀ f ∈ (["things", "ties"] : List Str), NoAttr K cT f
  i_Town : C8.InsC K cT
section
variable {w : World} {K : PySem.W.Frag} {mg : Str → Option Value} {cS cQ cT : Addr}
abbrev GV (mg : Str → Option Value) (x : Str) (v : V) : Prop := ∃ u, mg x = some u ∧ RelV v u
theorem Ev.g_MOST_ITEMS (e : Ev w K mg cS cQ cT) : GV mg "MOST_ITEMS" (.int 40) := let ⟨t, h⟩ := e.i_MOST_ITEMS; ⟨_, h, t, rfl⟩
theorem Ev.g_MOST_LOOKS (e : Ev w K mg cS cQ cT) : GV mg "MOST_LOOKS" (.int 3) := let ⟨t, h⟩ := e.i_MOST_LOOKS; ⟨_, h, t, rfl⟩
theorem Ev.g_LEAST_ITEMS (e : Ev w K mg cS cQ cT) : GV mg "LEAST_ITEMS" (.int 3) := let ⟨t, h⟩ := e.i_LEAST_ITEMS; ⟨_, h, t, rfl⟩
theorem Ev.g_MOST_THINGS (e : Ev w K mg cS cQ cT) : GV mg "MOST_THINGS" (.int 40) := let ⟨t, h⟩ := e.i_MOST_THINGS; ⟨_, h, t, rfl⟩
theorem Ev.g_MOST_VIEWS (e : Ev w K mg cS cQ cT) : GV mg "MOST_VIEWS" (.int 40) := let ⟨t, h⟩ := e.i_MOST_VIEWS; ⟨_, h, t, rfl⟩
theorem Ev.g_MANY_THIRDS (e : Ev w K mg cS cQ cT) : GV mg "MANY_THIRDS" (.int 4) := let ⟨t, h⟩ := e.i_MANY_THIRDS; ⟨_, h, t, rfl⟩
theorem Ev.g_NEGATION (e : Ev w K mg cS cQ cT) : GV mg "NEGATION" (.str "not") := let ⟨t, h⟩ := e.s_NEGATION; ⟨_, h, t, rfl⟩
theorem Ev.g_Question (e : Ev w K mg cS cQ cT) : GV mg "Question" (.ref cQ) := ⟨_, e.m_Question.mgc, rfl⟩
theorem Ev.g_Town (e : Ev w K mg cS cQ cT) : GV mg "Town" (.ref cT) := let ⟨_, _, h⟩ := e.m_Town; ⟨_, h.mgc, rfl⟩
end
/-! ### heaps, types, tests -/
theorem hu64 {A : Around} {k : Nat} (r : Room k A) : A.units + 64 < cLine := r.units
theorem hu65 {A : Around} {k : Nat} (r : Room k A) : A.units + 65 < cLine := by have := r.un; omega
section
variable {X : Cx} {x : Str} {n : String} {pos : Pos}
theorem pe_ty (hm : X.mg x = none) (hg : Gl X x := by rfl) (hv : bootBuiltins x = some (.type n) := by decide +kernel) (hn : x ≠ "__name__" := by decide) (hd : (x == ("__debug__" : Str)) = false := by decide) : PE X (.Name x pos) (tC (.ty n)) :=
  pe_bltn hg hm hv rfl hn hd
end
section
variable {K : PySem.W.Frag} {H H' : Hp} {a : Addr} {xs : List V}
theorem ty_tup (h : SqT K H a xs) : TyX K H (.ref a) (.type "tuple") := by
  rcases h with (h | ⟨o, h⟩) | ⟨o, its, n, h, hc, _⟩
  · exact .base (.tup h)
  · exact .fTuple h
  · exact .kTuple h hc
theorem ty_lst (h : SqL K H a xs) : TyX K H (.ref a) (.type "list") := by
  rcases h with (h | ⟨o, h⟩) | ⟨o, its, n, h, hc, _⟩
  · exact .base (.lst h)
  · exact .base (.frz h)
  · exact .kList h hc
theorem ty_int {i : Int} : TyX K H (.int i) (.type "int") := .base (.int i)
theorem ty_str {z : Str} : TyX K H (.str z) (.type "str") := .base (.str z)
/-- isinstance(x, n) -/
theorem isi1 {v : V} {c n : String} {b : Bool} {Q : VK} (ty : TyX K H v (.type c)) (hb : kitB c n = some b) (q : Q (.bl b) H) : rIsi K [v, .ty n] H Q := ⟨v, .ty n, .type c, .type n, b, rfl, .ty n, ty, kit_ty hb, q⟩
/-- isinstance(x, (list, tuple)) -/
def isLT (c : String) : Bool := decide (c = "list") || decide (c = "tuple")
theorem isi2 {v : V} {c : String} {p : Addr} {Q : VK} {b1 b2 : Bool} (ty : TyX K H v (.type c)) (h1 : kitB c "list" = some b1) (h2 : kitB c "tuple" = some b2) (hp : H p = some (.tup [.ty "list", .ty "tuple"])) (q : Q (.bl (b1 || b2)) H) : rIsiT K [v, .ref p] H Q := by
  refine ⟨v, p, _, .type c, [.type "list", .type "tuple"], b1 || b2, rfl, hp, .cons (.ty _) (.cons (.ty _) .nil), ty, ?_, q⟩
  refine kitAny_cons (kit_ty h1) (fun e => ?_) fun e => by rw [e]; rfl
  subst e
  exact kitAny_cons (kit_ty h2) (fun e => by rw [e]; rfl) fun e => by rw [e]; rfl
end
end K61

end

section
set_option linter.all false
set_option maxRecDepth 100000
set_option maxHeartbeats 4000000
/-! K61, rules 3: comprehensions item by item. -/
namespace K61
open PySem PySem.Spec PyProof.Rows L2
section
variable {K : PySem.W.Frag} {a b : Addr} {α β : Type} {H H1 H' : Hp}
theorem sqT {xs : List V} (s : Same H H') (h : SqT K H a xs) : SqT K H' a xs := Same.seqT s h
theorem sqL {xs : List V} (s : Same H H') (h : SqL K H a xs) : SqL K H' a xs := L2.Same.seq s h
theorem new1 {p : Addr} {o : HO} (h : H p = none) : Same H (upd H p o) := same_new h
theorem same2 {p : Addr} {o : HO} (s : Same H H') (h : H' p = none) : Same H (upd H' p o) := L2.Same.trans s (same_new h)
/-- a list that was new at D may be put to anew -/
theorem same3 {p : Addr} {o : HO} (h : H p = none) (s : Same H H') : Same H (upd H' p o) := fun b u e => by
  rw [upd_ne (ne_of_none e h)]
  exact s _ _ e
theorem walk_tupM (l : List α) (c : α → V) : Walk (Itt K a) l.length (fun H => SqT K H a (l.map c)) (YAt (l.map c)) := by
  have := walk_tup (K := K) (a := a) (xs := l.map c)
  rwa [List.length_map] at this
theorem walk_listM (l : List α) (c : α → V) : Walk (Itl K a) l.length (fun H => SqL K H a (l.map c)) (YAt (l.map c)) := by
  have := walk_list (K := K) (a := a) (xs := l.map c)
  rwa [List.length_map] at this
theorem map_at {l : List α} {c : α → V} {i : Nat} {x : V} (h : (l.map c)[i]? = some x) : ∃ u, l[i]? = some u ∧ x = c u := by
  rw [List.getElem?_map] at h
  cases e : l[i]? with
  | none => rw [e] at h; cases h
  | some u => rw [e] at h; exact ⟨u, rfl, (Option.some.inj h).symm⟩
end
section
variable {J : It} {n : Nat} {G : Hp → Prop} {Y : Nat → Hp → V → Hp → Prop} {g : TG} {tt : TT} {te : TE} {vs : List Nat} {σ : L2.St} {H1 : Hp} {D : Addr} {Qd : Hp → Prop} {α : Type}
/-- [f(x) for x in l], told item by item -/
theorem lc_each {l : List α} {c : α → V} (w : Walk J l.length G (YAt (l.map c))) (hD : H1 D = none) (hn : l.length ≤ 9000) (f : α → V) (hG : ∀ H, Same H1 H → G H)
    (hs : ∀ (i : Nat) u H (ys : List V) (Kk : VK), l[i]? = some u → Same H1 H → H D = some (.lst ys) → (∀ H'', Same H H'' → Kk (f u) H'') → g (c u) (wipe σ vs) H fun σ2 H2 => wipe σ2 vs = wipe σ vs ∧ te σ2 H2 Kk)
    (hd : ∀ H : Hp, Same H1 H → H D = some (.lst (l.map f)) → Qd H) : LcAsk J g tYes te vs σ H1 D Qd := by
  refine lc_told w hD hn (l.map f) (List.length_map ..) hG (fun i x y H H' ys Kk hy sm hl hY hk => ?_) hd
  obtain ⟨rfl, hx⟩ := hY
  obtain ⟨u, hu, rfl⟩ := map_at hx
  have e : y = f u := by
    rw [List.getElem?_map, hu] at hy
    exact (Option.some.inj hy).symm
  subst e
  exact hs i u H' ys Kk hu sm hl hk
/-- values that are made: R tells what stands for the i-th, kept by what comes -/
theorem lc_made {l : List α} {c : α → V} (w : Walk J l.length G (YAt (l.map c))) (hD : H1 D = none) (hn : l.length ≤ 9000) (R : α → V → Hp → Prop) (hR : ∀ u y H H' zs, H D = some (.lst zs) → SameBut D H H' → R u y H → R u y H') (hG : ∀ H, Same H1 H → G H)
    (hs : ∀ (i : Nat) u H (ys : List V) (Kk : VK), l[i]? = some u → Same H1 H → H D = some (.lst ys) → (∀ y H'', Same H H'' → R u y H'' → Kk y H'') → g (c u) (wipe σ vs) H fun σ2 H2 => wipe σ2 vs = wipe σ vs ∧ te σ2 H2 Kk)
    (hd : ∀ (H : Hp) (ys : List V), Same H1 H → H D = some (.lst ys) → ys.length = l.length → (∀ (i : Nat) u y, l[i]? = some u → ys[i]? = some y → R u y H) → Qd H) : LcAsk J g tYes te vs σ H1 D Qd := by
  refine lc_rel w hD hn (fun i y H => ∃ u, l[i]? = some u ∧ R u y H) (fun i y H H' zs h1 h2 ⟨u, hu, r⟩ => ⟨u, hu, hR u y H H' zs h1 h2 r⟩) hG (fun i x H H' ys Kk hi sm hl hY hk => ?_) fun H ys sm hl he hr => hd H ys sm hl he fun i u y hu hy => ?_
  · obtain ⟨rfl, hx⟩ := hY
    obtain ⟨u, hu, rfl⟩ := map_at hx
    exact hs i u H' ys Kk hu sm hl fun y H'' s r => hk y H'' s ⟨u, hu, r⟩
  · obtain ⟨u', hu', r⟩ := hr i y hy
    rw [hu] at hu'
    cases hu'
    exact r
end
section
variable {K : PySem.W.Frag} {a b : Addr} {xs ys : List V}
theorem cut1 (xs : List V) : cutV xs (some 1) none = xs.drop 1 := by
  unfold cutV
  rw [show (some (1 : Int)) = some ((1 : Nat) : Int) from rfl, HT.sIx_nat, HT.sIx_none]
  cases xs with
  | nil => rfl
  | cons x r =>
    have e : min 1 (x :: r).length = 1 := by simp
    rw [e, List.drop_one, List.tail_cons, List.length_cons]
    exact List.take_of_length_le (by omega)
theorem whole1 {xs : List V} (h : HT.sIx xs.length 0 (some 1) = 0 ∧ HT.sIx xs.length xs.length none = xs.length) : xs = [] := by
  have q := h.1
  rw [show (some (1 : Int)) = some ((1 : Nat) : Int) from rfl, HT.sIx_nat] at q
  cases xs with
  | nil => rfl
  | cons x r => simp at q
theorem walk_zipT {n : Nat} (hn : n = min xs.length ys.length) : Walk (RZ.ItzT K a b) n (fun H => SqT K H a xs ∧ SqT K H b ys) (YPair (fun i => xs[i]?) (fun i => ys[i]?)) := by
  refine ⟨fun i H hi p => ?_, fun H p => ⟨xs, ys, p.1, p.2, by omega⟩, fun i H v H' _ p y => ?_⟩
  · have l1 : i < xs.length := by omega
    have l2 : i < ys.length := by omega
    exact ⟨xs, ys, xs[i], ys[i], p.1, p.2, List.getElem?_eq_getElem l1, List.getElem?_eq_getElem l2⟩
  · obtain ⟨T, u, v', e1, e2, e3, e4, e5⟩ := y
    exact ⟨T, u, v', e1, e2, e3, e4 xs p.1, e5 ys p.2⟩
end
section
variable {J : It} {G : Hp → Prop} {g : TG} {te : TE} {vs : List Nat} {σ : L2.St} {H1 : Hp} {D : Addr} {Qd : Hp → Prop} {α : Type}
/-- each with the next one: all True -/
theorem lc_next {l : List α} {c : α → V} {n : Nat} (hl : n = l.length - 1) (w : Walk J n G (YPair (fun i => (l.map c)[i]?) (fun i => ((l.map c).drop 1)[i]?))) (hD : H1 D = none) (hn : l.length ≤ 9000) (hG : ∀ H, Same H1 H → G H)
    (hs : ∀ (i : Nat) u v T H (ys : List V) (Kk : VK), l[i]? = some u → l[i + 1]? = some v → Same H1 H → H D = some (.lst ys) → H T = none → (∀ H'', Same H H'' → Kk (.bl true) H'') →
      g (.ref T) (wipe σ vs) (upd H T (.tup [c u, c v])) fun σ2 H2 => wipe σ2 vs = wipe σ vs ∧ te σ2 H2 Kk)
    (hd : ∀ H : Hp, Same H1 H → H D = some (.lst ((List.replicate (l.length - 1) true).map V.bl)) → Qd H) : LcAsk J g tYes te vs σ H1 D Qd := by
  subst hl
  refine lc_told w hD (by omega) ((List.replicate (l.length - 1) true).map V.bl) (by simp) hG (fun i x y H H' ys Kk hy sm hl hY hk => ?_) hd
  obtain ⟨T, x1, x2, rfl, hT, rfl, e1, e2⟩ := hY
  obtain ⟨u, hu, rfl⟩ := map_at e1
  have e2' : (l.map c)[i + 1]? = some x2 := by
    have q : (List.drop 1 (l.map c))[i]? = some x2 := e2
    rw [List.getElem?_drop, Nat.add_comm] at q
    exact q
  obtain ⟨v, hv, rfl⟩ := map_at e2'
  have e : y = .bl true := by
    rw [List.map_replicate] at hy
    exact List.eq_of_mem_replicate (List.mem_of_getElem? hy)
  subst e
  exact hs i u v T H ys Kk hu hv sm hl hT hk
end
section
variable {X : Cx} {K : PySem.W.Frag}
theorem ixTK (hK : X.K = K) : IxR X (rIxT K) := by subst hK; exact ix_tup
theorem ixLK (hK : X.K = K) : IxR X (rIxL K) := by subst hK; exact ix_list
theorem opInK (hK : X.K = K) : OpR X (compareOp .In) (rIn K false) := by subst hK; exact op_in_seq
theorem opNotInK (hK : X.K = K) : OpR X (compareOp .NotIn) (rIn K true) := by subst hK; exact op_notIn_seq
theorem pi_listK {tg l : Expr} {tl : TE} (hK : X.K = K) (hl : PE X l tl) : PI X tg l (iList K tl) := by subst hK; exact pi_list hl
theorem pi_tupK {tg l : Expr} {tl : TE} (hK : X.K = K) (hl : PE X l tl) : PI X tg l (iTup K tl) := by subst hK; exact pi_tup hl
theorem pa_starK {e : Expr} {es : List Expr} {p : Pos} {te : TE} {t : TA} (hK : X.K = K) (he : PE X e te) (hr : PA X es t) (hs : starEach (.Starred e p :: es) X.env = (true, eval e X.env) :: starEach es X.env := by rfl) : PA X (.Starred e p :: es) (StX.tStar K te t) := by
  subst hK
  exact StX.pa_star he hr hs
end
theorem op_ltDK {X : Cx} {K : PySem.W.Frag} (hK : X.K = K) (hu : X.A.units + 64 < cLine) : OpR X (compareOp .Lt) (rLtD K) := by
  subst hK
  exact op_ltD hu
theorem next_of {α : Type} {R : α → α → Prop} {l : List α} (hp : l.Pairwise R) {i : Nat} {u v : α} (hu : l[i]? = some u) (hv : l[i + 1]? = some v) : R u v := by
  obtain ⟨h1, e1⟩ := List.getElem?_eq_some_iff.mp hu
  obtain ⟨h2, e2⟩ := List.getElem?_eq_some_iff.mp hv
  rw [← e1, ← e2]
  exact List.pairwise_iff_getElem.mp hp i (i + 1) h1 h2 (Nat.lt_succ_self _)
theorem all_true (n : Nat) : ((List.replicate n true).all id) = true := by
  rw [List.all_eq_true]
  intro x hx
  exact (List.mem_replicate.mp hx).2
end K61

end

section
set_option linter.all false
set_option maxRecDepth 100000
set_option maxHeartbeats 4000000
/-! K61, walk 1: checks. -/
namespace K61
open PySem PySem.Spec PyProof.Rows L2
section
variable {P : Program} {w : World} {K : PySem.W.Frag} {mg : Str → Option Value} {base : Heap} {cS cQ cT : Addr}
theorem sc_is_integer : FnScope ["value"] ["value"] (defScope (top 11)) := ⟨rfl, rfl, rfl, by decide +kernel, rfl, by decide +kernel, by decide +kernel⟩
def spIsInt : Sp := fun vs H Q _ => ∃ i : Int, vs = [.int i] ∧ Q (.bl true) H
theorem c_is_integer (e : Ev w K mg cS cQ cT) : C8.Cal P w K mg base 1 "is_integer" spIsInt [] := by
  refine calD e.d_is_integer (fun _ _ _ _ _ _ us hl => match us, hl with | [_], _ => rfl) sc_is_integer (fun vs H Q E h => ?_) fun f cdv A outer s H vs Q E hr h => ?_
  · obtain ⟨i, rfl, _⟩ := h; rfl
  obtain ⟨i, rfl, q⟩ := h
  refine ⟨_, (pss_one (ps_ret (pe_and (pe_callB call_isi rfl e.n_isinstance (by decide +kernel) (pa_cons (pv 0) (pa_cons (pe_ty (n := "int") e.n_int) pa_nil))) (pe_one (pe_not (pe_callB call_isi rfl e.n_isinstance (by decide +kernel) (pa_cons (pv 0) (pa_cons (pe_ty (n := "bool") e.n_bool) pa_nil)))))))), ?_⟩
  refine ⟨_, rfl, _, _, _, _, true, rfl, .ty "int", ty_int, kit_ty (by decide +kernel), true, rfl, ?_⟩
  refine ⟨_, rfl, _, _, _, _, false, rfl, .ty "bool", ty_int, kit_ty (by decide +kernel), false, rfl, ?_⟩
  exact q
theorem sc_is_within : FnScope ["value", "least", "most"] ["value", "least", "most"] (defScope (top 12)) := ⟨rfl, rfl, rfl, by decide +kernel, rfl, by decide +kernel, by decide +kernel⟩
def spIsWithin : Sp := fun vs H Q _ => ∃ i l m : Int, vs = [.int i, .int l, .int m] ∧ Q (.bl (decide (l ≤ i) && decide (i ≤ m))) H
theorem c_is_within (e : Ev w K mg cS cQ cT) : C8.Cal P w K mg base 2 "is_within" spIsWithin [] := by
  have c_is_integer := c_is_integer (P := P) (base := base) e
  refine calD e.d_is_within (fun _ _ _ _ _ _ us hl => match us, hl with | [_, _, _], _ => rfl) sc_is_within (fun vs H Q E h => ?_) fun f cdv A outer s H vs Q E hr h => ?_
  · obtain ⟨i, l, m, rfl, _⟩ := h; rfl
  obtain ⟨i, l, m, rfl, q⟩ := h
  refine ⟨_, (pss_cons (ps_if (pt_not (pt_val (C8.pe_c c_is_integer hr (by first | decide | omega) rfl (pa_cons (pv 0) pa_nil)))) (pss_one (ps_ret pe_bl)) pss_nil)
    (pss_one (ps_ret (pe_and (pe_or (pe_cmpR op_isN (pv 1) pe_non (nomark _)) (pe_one (pe_cmpR op_le (pv 1) (pv 0) (nomark _)))) (pe_one (pe_or (pe_cmpR op_isN (pv 2) pe_non (nomark _)) (pe_one (pe_cmpR op_le (pv 0) (pv 2) (nomark _))))))))), ?_⟩
  refine ⟨_, rfl, i, rfl, true, rfl, ?_⟩
  refine ite_no rfl ?_
  refine ⟨_, rfl, rfl, false, rfl, _, rfl, _, rfl, _, _, rfl, rfl, decide (l ≤ i), rfl, ?_⟩
  cases h1 : decide (l ≤ i)
  · rw [h1] at q
    exact q
  · rw [h1] at q
    exact ⟨_, rfl, rfl, false, rfl, _, rfl, _, rfl, _, _, rfl, rfl, q⟩
theorem sc_are_integers : FnScope ["value", "each"] ["value"] (defScope (top 13)) := ⟨rfl, rfl, rfl, by decide +kernel, rfl, by decide +kernel, by decide +kernel⟩
def spAreInts (K : PySem.W.Frag) : Sp := fun vs H Q _ => ∃ (t : Addr) (ns : List Int), vs = [.ref t] ∧ SqT K H t (ns.map V.int) ∧ ns.length ≤ 1000 ∧ ∀ H', Same H H' → Q (.bl true) H'
theorem c_are_integers (e : Ev w K mg cS cQ cT) : C8.Cal P w K mg base 2 "are_integers" (spAreInts K) [] := by
  have c_is_integer := c_is_integer (P := P) (base := base) e
  refine calD e.d_are_integers (fun _ _ _ _ _ _ us hl => match us, hl with | [_], _ => rfl) sc_are_integers (fun vs H Q E h => ?_) fun f cdv A outer s H vs Q E hr h => ?_
  · obtain ⟨t, ns, rfl, _⟩ := h; rfl
  obtain ⟨t, ns, rfl, ht, hn, q⟩ := h
  refine ⟨_, (pss_one (ps_ret (pe_and (pe_callB call_isiT rfl e.n_isinstance (by decide +kernel) (pa_cons (pv 0) (pa_cons (pe_tup (pa_cons (pe_ty (n := "list") e.n_list) (pa_cons (pe_ty (n := "tuple") e.n_tuple) pa_nil))) pa_nil))) (pe_one (pe_callB (cr_all rfl) rfl e.n_all (by decide +kernel) (pa_cons (pe_lc (own := [("each", 1)]) (tt := tYes) rfl sc_are_integers.nd (pi_tup (pv 0)) (blkOk_by (N := ["value", "each"]) (sc := defScope (top 13)) (by decide +kernel)) (fun _ _ _ _ _ => (pg_name (i := 1) sc_are_integers.nd rfl (.inl rfl))) (fun _ _ _ _ _ => pts_nil) (fun _ _ _ _ _ => (C8.pe_c c_is_integer hr (by first | decide | omega) rfl (pa_cons (pv 1) pa_nil)))) pa_nil)))))), ?_⟩
  refine ⟨_, rfl, (by show 2 ≤ sizeLine; decide), fun p hp => ?_⟩
  have sm : Same H (upd H p (.tup [.ty "list", .ty "tuple"])) := same_new hp
  refine ⟨_, p, _, _, _, true, rfl, upd_same, .cons (.ty "list") (.cons (.ty "tuple") .nil), ty_tup (Same.seqT sm ht), ?_, true, rfl, ?_⟩
  · exact kitAny_cons (kit_ty (b := "list") (r := false) (by decide +kernel)) (fun _ => kitAny_cons (kit_ty (b := "tuple") (r := true) (by decide +kernel)) (fun z => by cases z) fun _ => rfl) fun z => by cases z
  refine ⟨_, rfl, t, rfl, ⟨_, Same.seqT sm ht⟩, fun D hD => ?_⟩
  refine lc_each (walk_tupM ns V.int) hD (by omega) (fun _ => V.bl true) (fun H' s' => sqT (Same.tr sm s') ht) (fun i j H2 ys Kk hj s1 _ hk => ⟨rfl, ?_⟩) fun H' s' hD' => ?_
  · exact ⟨_, rfl, j, rfl, hk _ (Same.refl _)⟩
  · refine ⟨D, ns.map fun _ => true, rfl, .inl (.inl (by rw [hD', List.map_map] <;> rfl)), ?_⟩
    have e : (ns.map fun _ => true).all id = true := by simp
    show Q (.bl ((ns.map fun _ => true).all id)) H'
    rw [e]
    exact q H' (Same.tr sm s')
theorem sc_is_lot : FnScope ["value", "many", "each", "one", "other"] ["value", "many"] (defScope (top 14)) := ⟨rfl, rfl, rfl, by decide +kernel, rfl, by decide +kernel, by decide +kernel⟩
def spIsLot (K : PySem.W.Frag) : Sp := fun vs H Q _ => ∃ (t : Addr) (ns : List Int) (m : Int), vs = [.ref t, .int m] ∧ SqT K H t (ns.map V.int) ∧ ns.length ≤ 1000 ∧ (∀ n ∈ ns, 0 ≤ n ∧ n < m) ∧ ns.Pairwise (· < ·) ∧ ∀ H', Same H H' → Q (.bl true) H'
theorem c_is_lot (e : Ev w K mg cS cQ cT) : C8.Cal P w K mg base 3 "is_lot" (spIsLot K) [] := by
  have c_are_integers := c_are_integers (P := P) (base := base) e
  refine calD e.d_is_lot (fun _ _ _ _ _ _ us hl => match us, hl with | [_, _], _ => rfl) sc_is_lot (fun vs H Q E h => ?_) fun f cdv A outer s H vs Q E hr h => ?_
  · obtain ⟨t, ns, m, rfl, _⟩ := h; rfl
  obtain ⟨t, ns, m, rfl, ht, hn, hb, hp, q⟩ := h
  refine ⟨_, (pss_cons (ps_if (PW.pt (pw_or (pt_not (pt_val (C8.pe_c c_are_integers hr (by first | decide | omega) rfl (pa_cons (pv 0) pa_nil)))) (pw_or1 (pt_not (pt_val (pe_callB (cr_all rfl) rfl e.n_all (by decide +kernel) (pa_cons (pe_lc (own := [("each", 2)]) (tt := tYes) rfl sc_is_lot.nd (pi_tup (pv 0)) (blkOk_by (N := ["value", "many", "each", "one", "other"]) (sc := defScope (top 14)) (by decide +kernel)) (fun _ _ _ _ _ => (pg_name (i := 2) sc_is_lot.nd rfl (.inl rfl))) (fun _ _ _ _ _ => pts_nil) (fun _ _ _ _ _ => (pe_chain op_le op_lt pe_int (pv 2) (pv 1)))) pa_nil))))))) (pss_one (ps_ret pe_bl)) pss_nil)
    (pss_one (ps_ret (pe_callB (cr_all rfl) rfl e.n_all (by decide +kernel) (pa_cons (pe_lc (own := [("one", 3), ("other", 4)]) (g := (gTup K 2 (gCons (gName 3) (gCons (gName 4) gNil)))) (tt := tYes) rfl sc_is_lot.nd (RZ.pi_zipA rfl e.n_zip (pa_cons (pv 0) (pa_cons (pe_slice sl_tupA (pv 0) (po_some pe_int) po_none) pa_nil))) (blkOk_by (N := ["value", "many", "each", "one", "other"]) (sc := defScope (top 14)) (by decide +kernel)) (fun _ _ _ _ _ => (pg_tup rfl (pgs_cons (pg_name (i := 3) sc_is_lot.nd rfl (.inl rfl)) (pgs_cons (pg_name (i := 4) sc_is_lot.nd rfl (.inl rfl)) pgs_nil)))) (fun _ _ _ _ _ => pts_nil) (fun _ _ _ _ _ => (pe_cmpR op_lt (pv 3) (pv 4) (nomark _)))) pa_nil))))), ?_⟩
  refine ⟨_, rfl, t, ns, rfl, ht, hn, fun H1 s1 => ⟨true, rfl, ?_⟩⟩
  refine ite_no rfl ?_
  refine ⟨_, rfl, t, rfl, ⟨_, sqT s1 ht⟩, fun D hD => ?_⟩
  refine lc_each (walk_tupM ns V.int) hD (by omega) (fun _ => V.bl true) (fun H' s' => sqT (Same.tr s1 s') ht) (fun i j H2 ys Kk hj s2 _ hk => ⟨rfl, ?_⟩) fun H2 s2 hD' => ?_
  · have b := hb j (List.mem_of_getElem? hj)
    refine ⟨_, rfl, _, _, rfl, rfl, true, congrArg V.bl (decide_eq_true b.1), ?_⟩
    refine ⟨_, rfl, _, _, rfl, rfl, ?_⟩
    have e : decide (j < m) = true := decide_eq_true b.2
    show Kk (.bl (decide (j < m))) H2
    rw [e]
    exact hk _ (Same.refl _)
  refine ⟨D, List.replicate ns.length true, rfl, .inl (.inl (by rw [hD', List.map_replicate, List.map_const'] <;> rfl)), ?_⟩
  refine ⟨true, congrArg V.bl (all_true _), ?_⟩
  refine ite_no rfl ?_
  have s2' := Same.tr s1 s2
  refine ⟨_, rfl, _, rfl, _, rfl, t, _, rfl, sqT s2' ht, fun hw => ?_, fun _ p hp' => ?_⟩
  · have e : ns = [] := List.map_eq_nil_iff.mp (whole1 hw)
    subst e
    refine ⟨t, t, [], [], rfl, .inr ⟨sqT s2' ht, sqT s2' ht, fun D2 hD2 => ?_⟩⟩
    refine lc_next (l := ([] : List Int)) (c := V.int) rfl (walk_zipT (xs := []) (ys := []) rfl) hD2 (Nat.zero_le _) (fun H' s' => ⟨sqT (Same.tr s2' s') ht, sqT (Same.tr s2' s') ht⟩) (fun i u v T H3 ys Kk hu => by simp at hu) fun H4 s4 hD4 => ?_
    exact ⟨D2, [], rfl, .inl (.inl hD4), q _ (Same.tr s2' s4)⟩
  · rw [cut1]
    refine ⟨t, p, ns.map V.int, (ns.map V.int).drop 1, rfl, .inr ⟨sqT (same2 s2' hp') ht, .inl (.inl upd_same), fun D2 hD2 => ?_⟩⟩
    have s3 := same2 (o := .tup ((ns.map V.int).drop 1)) s2' hp'
    refine lc_next (l := ns) (c := V.int) rfl (walk_zipT (by simp)) hD2 (by omega) (fun H' s' => ⟨sqT (Same.tr s3 s') ht, .inl (.inl (s' _ _ upd_same))⟩) (fun i u v T H3 ys Kk hu hv s4 _ hT hk => ?_) fun H4 s4 hD4 => ?_
    · refine ⟨T, _, rfl, .inl (.inl upd_same), rfl, _, _, rfl, _, _, rfl, rfl, rfl, ?_⟩
      refine ⟨_, rfl, _, rfl, _, _, rfl, rfl, ?_⟩
      have e : decide (u < v) = true := decide_eq_true (next_of hp hu hv)
      show Kk (.bl (decide (u < v))) _
      rw [e]
      exact hk _ (new1 hT)
    · refine ⟨D2, List.replicate (ns.length - 1) true, rfl, .inl (.inl hD4), ?_⟩
      show Q (.bl ((List.replicate (ns.length - 1) true).all id)) _
      rw [all_true]
      exact q _ (Same.tr s3 s4)
/-! ### data of ints and tuples -/
mutual
/-- ints, and tuples of such, at most n deep and 1000 wide -/
def flatD : Nat → PyData → Bool
  | _, .int _ => true
  | n + 1, .tuple ds => decide (ds.length ≤ 1000) && flatAll n ds
  | _, _ => false
def flatAll : Nat → List PyData → Bool
  | _, [] => true
  | n, d :: ds => flatD n d && flatAll n ds
end
mutual
theorem dp_same {H H' : Hp} (s : Same H H') : ∀ (d : PyData) (v : V), Dp K H v d → Dp K H' v d
  | .none, _, h => by cases h; exact .non
  | .bool _, _, h => by cases h; exact .bl _
  | .int _, _, h => by cases h; exact .int _
  | .str _, _, h => by cases h; exact .str _
  | .list ds, _, h => by
    cases h with
    | lst h1 h2 => exact .lst (sqL s h1) (dpAll_same s ds _ h2)
  | .tuple ds, _, h => by
    cases h with
    | tup h1 h2 => exact .tup (sqT s h1) (dpAll_same s ds _ h2)
  | .dict _, _, h => by cases h
theorem dpAll_same {H H' : Hp} (s : Same H H') : ∀ (ds : List PyData) (vs : List V), DpAll K H vs ds → DpAll K H' vs ds
  | [], _, h => by cases h; exact .nil
  | d :: ds, _, h => by
    cases h with
    | cons h1 h2 => exact .cons (dp_same s d _ h1) (dpAll_same s ds _ h2)
end
end
end K61

end

section
set_option linter.all false
set_option maxRecDepth 100000
set_option maxHeartbeats 4000000
/-! K61, walk 2: fixed, the checks of views. -/
namespace K61
open PySem PySem.Spec PyProof.Rows L2
section
variable {P : Program} {w : World} {K : PySem.W.Frag} {mg : Str → Option Value} {base : Heap} {cS cQ cT : Addr}
theorem calNone {x : Str} {st : Stmt} {ps : List Str} {sp : Sp} (D : DefAt K mg x st []) (hb : BindOk x x st ps) (no : ∀ vs H Q E, ¬ sp vs H Q E) : C8.Cal P w K mg base 0 x sp [] := by
  obtain ⟨f, fd, F, m⟩ := D.ex
  exact ⟨f, fd, ps, [], ⟨fun vs H Q E h => absurd h (no vs H Q E), fun A outer s H args us vs Q E _ _ _ _ h => absurd h (no vs H Q E)⟩, m, F.kp, F.bindsN hb, .nil⟩
mutual
theorem dp_flat {H H' : Hp} (s : ∀ a xs, SqT K H a xs → SqT K H' a xs) : ∀ (n : Nat) (d : PyData) (v : V), flatD n d = true → Dp K H v d → Dp K H' v d
  | _, .int _, _, _, h => by cases h; exact .int _
  | n + 1, .tuple ds, _, f, h => by
    cases h with
    | tup h1 h2 =>
      have f' : (decide (ds.length ≤ 1000) && flatAll n ds) = true := f
      rw [Bool.and_eq_true] at f'
      exact .tup (s _ _ h1) (dpAll_flat s n ds _ f'.2 h2)
  | 0, .tuple ds, _, f, _ => by simp [flatD] at f
  | 0, .none, _, f, _ => by simp [flatD] at f
  | 0, .bool _, _, f, _ => by simp [flatD] at f
  | 0, .str _, _, f, _ => by simp [flatD] at f
  | 0, .list _, _, f, _ => by simp [flatD] at f
  | 0, .dict _, _, f, _ => by simp [flatD] at f
  | n + 1, .none, _, f, _ => by simp [flatD] at f
  | n + 1, .bool _, _, f, _ => by simp [flatD] at f
  | n + 1, .str _, _, f, _ => by simp [flatD] at f
  | n + 1, .list _, _, f, _ => by simp [flatD] at f
  | n + 1, .dict _, _, f, _ => by simp [flatD] at f
theorem dpAll_flat {H H' : Hp} (s : ∀ a xs, SqT K H a xs → SqT K H' a xs) : ∀ (n : Nat) (ds : List PyData) (vs : List V), flatAll n ds = true → DpAll K H vs ds → DpAll K H' vs ds
  | _, [], _, _, h => by cases h; exact .nil
  | n, d :: ds, _, f, h => by
    have f' : (flatD n d && flatAll n ds) = true := by cases n <;> exact f
    rw [Bool.and_eq_true] at f'
    cases h with
    | cons h1 h2 => exact .cons (dp_flat s n d _ f'.1 h1) (dpAll_flat s n ds _ f'.2 h2)
end
theorem flat_mem {n : Nat} : ∀ {ds : List PyData}, flatAll n ds = true → ∀ d ∈ ds, flatD n d = true
  | d :: ds, f, e, he => by
    have f' : (flatD n d && flatAll n ds) = true := by cases n <;> exact f
    rw [Bool.and_eq_true] at f'
    rcases List.mem_cons.mp he with z | z
    · rw [z]; exact f'.1
    · exact flat_mem f'.2 e z
theorem sq_but {H H' : Hp} {D : Addr} {zs : List V} (hD : H D = some (.lst zs)) (s : SameBut D H H') (a : Addr) (xs : List V) (h : SqT K H a xs) : SqT K H' a xs := by
  rcases h with (h | ⟨o, h⟩) | h
  · exact .inl (.inl (s a _ (ne_of h hD (by intro z; cases z)) h))
  · exact .inl (.inr ⟨o, s a _ (ne_of h hD (by intro z; cases z)) h⟩)
  · exact .inr h
theorem dpAll_get {H : Hp} : ∀ {vs : List V} {ds : List PyData}, DpAll K H vs ds → vs.length = ds.length ∧ ∀ (i : Nat) v d, vs[i]? = some v → ds[i]? = some d → Dp K H v d
  | _, _, .nil => ⟨rfl, fun i v d h => by simp at h⟩
  | _, _, .cons h1 h2 => by
    obtain ⟨l, g⟩ := dpAll_get h2
    refine ⟨congrArg Nat.succ l, fun i v d hv hd => ?_⟩
    cases i with
    | zero =>
      simp only [List.getElem?_cons_zero, Option.some.injEq] at hv hd
      subst hv hd
      exact h1
    | succ i =>
      rw [List.getElem?_cons_succ] at hv hd
      exact g i v d hv hd
theorem dpAll_of {H : Hp} : ∀ {vs : List V} {ds : List PyData}, vs.length = ds.length → (∀ (i : Nat) v d, vs[i]? = some v → ds[i]? = some d → Dp K H v d) → DpAll K H vs ds
  | [], [], _, _ => .nil
  | v :: vs, d :: ds, l, g => .cons (g 0 v d rfl rfl) (dpAll_of (Nat.succ.inj l) fun i v' d' hv hd => g (i + 1) v' d' (by simpa using hv) (by simpa using hd))
  | [], _ :: _, l, _ => by cases l
  | _ :: _, [], l, _ => by cases l
theorem sc_fixed : FnScope ["value", "part"] ["value"] (defScope (top 16)) := ⟨rfl, rfl, rfl, by decide +kernel, rfl, by decide +kernel, by decide +kernel⟩
def spFixed (K : PySem.W.Frag) (n : Nat) : Sp := fun vs H Q _ => ∃ (m : Nat) (v : V) (d : PyData), n = m + 1 ∧ vs = [v] ∧ Dp K H v d ∧ flatD m d = true ∧ ∀ v' H', Same H H' → Dp K H' v' d → Q v' H'
theorem b_fixed : BindOk "fixed" "fixed" (top 16) ["value"] := fun _ _ _ _ _ _ us hl => match us, hl with | [_], _ => rfl
theorem s_fixed {n : Nat} (e : Ev w K mg cS cQ cT) (c_fixed : C8.Cal P w K mg base n "fixed" (spFixed K n) []) : C8.Cal P w K mg base (n + 1) "fixed" (spFixed K (n + 1)) [] := by
  refine calD e.d_fixed b_fixed sc_fixed (fun vs H Q E h => ?_) fun f cdv A outer s H vs Q E hr h => ?_
  · obtain ⟨m, v, d, _, rfl, _⟩ := h; rfl
  obtain ⟨m, v, d, hm, rfl, hd, hf, q⟩ := h
  cases hm
  refine ⟨_, (pss_cons (ps_if (pt_not (pt_val (pe_callB call_isiT rfl e.n_isinstance (by decide +kernel) (pa_cons (pv 0) (pa_cons (pe_tup (pa_cons (pe_ty (n := "list") e.n_list) (pa_cons (pe_ty (n := "tuple") e.n_tuple) pa_nil))) pa_nil))))) (pss_one (ps_ret (pv 0))) pss_nil)
    (pss_one (ps_ret (pe_callTy call_tuple_of rfl e.n_tuple (by decide +kernel) (pa_cons (pe_lc (own := [("part", 1)]) (tt := tYes) rfl sc_fixed.nd (pi_tup (pv 0)) (blkOk_by (N := ["value", "part"]) (sc := defScope (top 16)) (by decide +kernel)) (fun _ _ _ _ _ => (pg_name (i := 1) sc_fixed.nd rfl (.inl rfl))) (fun _ _ _ _ _ => pts_nil) (fun _ _ _ _ _ => (C8.pe_c c_fixed hr (by first | decide | omega) rfl (pa_cons (pv 1) pa_nil)))) pa_nil))))), ?_⟩
  refine ⟨_, rfl, (by show 2 ≤ sizeLine; decide), fun p hp => ?_⟩
  have sm : Same H (upd H p (.tup [.ty "list", .ty "tuple"])) := new1 hp
  cases hd with
  | non => cases n <;> simp [flatD] at hf
  | bl _ => cases n <;> simp [flatD] at hf
  | str _ => cases n <;> simp [flatD] at hf
  | lst _ _ => cases n <;> simp [flatD] at hf
  | int i =>
    refine ⟨_, p, _, _, _, false, rfl, upd_same, .cons (.ty "list") (.cons (.ty "tuple") .nil), ty_int, ?_, false, rfl, ?_⟩
    · exact kitAny_cons (kit_ty (b := "list") (r := false) (by decide +kernel)) (fun _ => kitAny_cons (kit_ty (b := "tuple") (r := false) (by decide +kernel)) (fun _ => rfl) fun z => by cases z) fun z => by cases z
    refine ite_yes rfl ?_
    exact ⟨_, rfl, q _ _ sm (.int i)⟩
  | @tup t xs ds ht hall =>
    refine ⟨_, p, _, _, _, true, rfl, upd_same, .cons (.ty "list") (.cons (.ty "tuple") .nil), ty_tup (sqT sm ht), ?_, true, rfl, ?_⟩
    · exact kitAny_cons (kit_ty (b := "list") (r := false) (by decide +kernel)) (fun _ => kitAny_cons (kit_ty (b := "tuple") (r := true) (by decide +kernel)) (fun z => by cases z) fun _ => rfl) fun z => by cases z
    refine ite_no rfl ?_
    have hn : n ≠ 0 := fun z => by subst z; simp [flatD] at hf
    obtain ⟨k, rfl⟩ := Nat.exists_eq_succ_of_ne_zero hn
    have hf' : (decide (ds.length ≤ 1000) && flatAll k ds) = true := hf
    rw [Bool.and_eq_true] at hf'
    have hz := of_decide_eq_true hf'.1
    obtain ⟨hl, hg⟩ := dpAll_get hall
    refine ⟨_, rfl, t, rfl, ⟨_, sqT sm ht⟩, fun D hD => ?_⟩
    refine lc_rel (walk_tup (xs := xs)) hD (by omega) (fun i y H' => ∃ d, ds[i]? = some d ∧ Dp K H' y d) (fun i y H1 H2 zs h1 h2 ⟨d, hd, r⟩ => ⟨d, hd, dp_flat (sq_but h1 h2) k d y (flat_mem hf'.2 d (List.mem_of_getElem? hd)) r⟩)
      (fun H' s' => sqT (Same.tr sm s') ht) (fun i x H1 H2 ys Kk hi s1 hD1 hY hk => ?_) fun H' ys s1 hD1 hlen hr' => ?_
    · obtain ⟨rfl, hx⟩ := hY
      have hi' : i < ds.length := by omega
      have hdi := List.getElem?_eq_getElem hi'
      refine ⟨rfl, _, rfl, k, x, ds[i], rfl, rfl, dp_same (Same.tr sm s1) _ _ (hg i x _ hx hdi), flat_mem hf'.2 _ (List.mem_of_getElem? hdi), fun v' H3 s3 r3 => hk _ _ s3 ⟨_, hdi, r3⟩⟩
    · refine ⟨D, _, rfl, .inl ⟨.inl (.inl hD1), fun l hl' => ?_⟩⟩
      have s2 := Same.tr sm s1
      refine q _ _ (same2 s2 hl') (.tup (.inl (.inl upd_same)) (dpAll_of (by omega) fun i v d hv hd => ?_))
      obtain ⟨d', hd', r⟩ := hr' i v hv
      rw [hd] at hd'
      cases hd'
      exact dp_same (new1 hl') _ _ r
theorem c_fixed (e : Ev w K mg cS cQ cT) : ∀ n, C8.Cal P w K mg base n "fixed" (spFixed K n) []
  | 0 => calNone e.d_fixed b_fixed fun vs H Q E ⟨m, _, _, h, _⟩ => by cases h
  | n + 1 => s_fixed e (c_fixed e n)
theorem sc_are_unlike : FnScope ["values", "told", "each", "one", "other"] ["values"] (defScope (top 52)) := ⟨rfl, rfl, rfl, by decide +kernel, rfl, by decide +kernel, by decide +kernel⟩
def spUnlike (K : PySem.W.Frag) (n : Nat) : Sp := fun vs H Q _ => ∃ (v : V) (ds : List PyData), vs = [v] ∧ Dp K H v (.tuple ds) ∧ ds.length ≤ 1000 ∧ flatAll n ds = true ∧ PySem.W.AllAlike ds ∧ (∀ d ∈ ds, d ≠ .none ∧ d.depth ≤ 32) ∧ ds.Pairwise (fun a b => PySem.W.dataLt a b = true) ∧
  ∀ H', Same H H' → Q (.bl true) H'
theorem c_are_unlike (e : Ev w K mg cS cQ cT) (n : Nat) : C8.Cal P w K mg base (n + 2) "are_unlike" (spUnlike K n) [] := by
  have c_fixed := c_fixed (P := P) (base := base) e (n + 1)
  refine calD e.d_are_unlike (fun _ _ _ _ _ _ us hl => match us, hl with | [_], _ => rfl) sc_are_unlike (fun vs H Q E h => ?_) fun f cdv A outer s H vs Q E hr h => ?_
  · obtain ⟨v, ds, rfl, _⟩ := h; rfl
  obtain ⟨v, ds, rfl, hd, hz, hf, hal, hno, hp, q⟩ := h
  refine ⟨_, (pss_cons (ps_setLc (i := 1) (own := [("each", 2)]) (tt := tYes) rfl sc_are_unlike.nd rfl rfl (sw_true rfl rfl rfl (by decide +kernel)) (pi_tup (pv 0)) (blkOk_by (N := ["values", "told", "each", "one", "other"]) (sc := defScope (top 52)) (by decide +kernel)) (fun _ _ _ _ _ => (pg_name (i := 2) sc_are_unlike.nd rfl (.inl rfl))) (fun _ _ _ _ _ => pts_nil) (fun _ _ _ _ _ => (C8.pe_c c_fixed hr (by first | decide | omega) rfl (pa_cons (pv 2) pa_nil))))
    (pss_one (ps_ret (pe_callB (cr_all rfl) rfl e.n_all (by decide +kernel) (pa_cons (pe_lc (own := [("one", 3), ("other", 4)]) (g := (gTup K 2 (gCons (gName 3) (gCons (gName 4) gNil)))) (tt := tYes) rfl sc_are_unlike.nd (RZ.pi_zipA rfl e.n_zip (pa_cons (pv 1) (pa_cons (pe_slice sl_list (pv 1) (po_some pe_int) po_none) pa_nil))) (blkOk_by (N := ["values", "told", "each", "one", "other"]) (sc := defScope (top 52)) (by decide +kernel)) (fun _ _ _ _ _ => (pg_tup rfl (pgs_cons (pg_name (i := 3) sc_are_unlike.nd rfl (.inl rfl)) (pgs_cons (pg_name (i := 4) sc_are_unlike.nd rfl (.inl rfl)) pgs_nil)))) (fun _ _ _ _ _ => pts_nil) (fun _ _ _ _ _ => (pe_cmpR (op_ltDK (K := K) rfl (hu64 hr)) (pv 3) (pv 4) (nomark _)))) pa_nil))))), ?_⟩
  cases hd with
  | @tup t xs _ ht hall =>
  obtain ⟨hl, hg⟩ := dpAll_get hall
  refine ⟨_, rfl, t, rfl, ⟨_, ht⟩, fun D hD => ?_⟩
  refine lc_rel (walk_tup (xs := xs)) hD (by omega) (fun i y H' => ∃ d, ds[i]? = some d ∧ Dp K H' y d) (fun i y H1 H2 zs h1 h2 ⟨d, hd, r⟩ => ⟨d, hd, dp_flat (sq_but h1 h2) n d y (flat_mem hf d (List.mem_of_getElem? hd)) r⟩)
    (fun H' s' => sqT s' ht) (fun i x H1 H2 ys Kk hi s1 hD1 hY hk => ?_) fun H' ys s1 hD1 hlen hr' => ?_
  · obtain ⟨rfl, hx⟩ := hY
    have hi' : i < ds.length := by omega
    have hdi := List.getElem?_eq_getElem hi'
    refine ⟨rfl, _, rfl, n, x, ds[i], rfl, rfl, dp_same s1 _ _ (hg i x _ hx hdi), flat_mem hf _ (List.mem_of_getElem? hdi), fun v' H3 s3 r3 => hk _ _ s3 ⟨_, hdi, r3⟩⟩
  · refine ⟨_, rfl, _, rfl, _, rfl, D, ys, rfl, .inl (.inl hD1), fun p hp' => ?_⟩
    rw [cut1]
    refine ⟨D, p, ys, ys.drop 1, rfl, .inl ⟨.inl (.inl (new1 hp' _ _ hD1)), .inl (.inl upd_same), fun D2 hD2 => ?_⟩⟩
    have s2 := same2 (o := .lst (ys.drop 1)) s1 hp'
    refine lc_next (l := ys) (c := fun v => v) rfl ((walk_zip (xs := ys) (ys := ys.drop 1) (by simp)).mono (fun _ z => z) fun _ _ _ _ _ _ z => by simpa using z) hD2 (by omega)
      (fun H3 s3 => ⟨.inl (.inl (s3 _ _ (new1 hp' _ _ hD1))), .inl (.inl (s3 _ _ upd_same))⟩) (fun i u v T H3 zs Kk hu hv s3 _ hT hk => ?_) fun H3 s3 hD3 => ?_
    · obtain ⟨d1, hd1, r1⟩ := hr' i u hu
      obtain ⟨d2, hd2, r2⟩ := hr' (i + 1) v hv
      have s4 := same2 (o := .tup [u, v]) (Same.tr (new1 hp') s3) hT
      refine ⟨T, _, rfl, .inl (.inl upd_same), rfl, _, _, rfl, _, _, rfl, rfl, rfl, ?_⟩
      refine ⟨_, rfl, _, rfl, d1, d2, dp_same s4 _ _ r1, dp_same s4 _ _ r2, hal _ (List.mem_of_getElem? hd1) _ (List.mem_of_getElem? hd2), (hno _ (List.mem_of_getElem? hd1)).1, (hno _ (List.mem_of_getElem? hd1)).2, ?_⟩
      rw [next_of hp hd1 hd2]
      exact hk _ (new1 hT)
    · refine ⟨D2, List.replicate (ys.length - 1) true, rfl, .inl (.inl hD3), ?_⟩
      show Q (.bl ((List.replicate (ys.length - 1) true).all id)) _
      rw [all_true]
      exact q _ (Same.tr s2 s3)
/-! ### sights, views as data -/
def nI (n : Nat) : PyData := .int (n : Int)
def toI (n : Nat) : Int := n
def sgtD (s : Sgt) : PyData := .tuple [.int (if s.1 = true then 1 else 0), .tuple (s.2.map nI)]
def vwD (v : Vw) : PyData := .tuple (v.map sgtD)
def SgtOk (s : Sgt) : Prop := s.2.length ≤ 4 ∧ (∀ n ∈ s.2, n < 4) ∧ s.2.Pairwise (· < ·)
def VwOk (v : Vw) : Prop := v.length ≤ 1000 ∧ (∀ s ∈ v, SgtOk s) ∧ v.Pairwise (fun a b => PySem.W.dataLt (sgtD a) (sgtD b) = true)
def VwsOk (vs : List Vw) : Prop := 1 ≤ vs.length ∧ vs.length ≤ 40 ∧ (∀ v ∈ vs, VwOk v) ∧ vs.Pairwise (fun a b => PySem.W.dataLt (vwD a) (vwD b) = true)
theorem natD_alike (l m : List Nat) : PySem.W.alikeAll (l.map nI) (m.map nI) = true := by
  have := PySem.W.alike_ints (l.map toI) (m.map toI)
  rwa [List.map_map, List.map_map] at this
theorem sgtD_alike (a b : Sgt) : PySem.W.alike (sgtD a) (sgtD b) = true := by
  unfold sgtD
  simp [PySem.W.alike, PySem.W.alikeAll, natD_alike]
theorem vwD_alikeAll : ∀ a b : Vw, PySem.W.alikeAll (a.map sgtD) (b.map sgtD) = true
  | [], _ => by simp [PySem.W.alikeAll]
  | _ :: _, [] => by simp [PySem.W.alikeAll]
  | x :: xs, y :: ys => by
    rw [List.map_cons, List.map_cons, PySem.W.alikeAll, sgtD_alike, vwD_alikeAll xs ys]
    rfl
theorem vwD_alike (a b : Vw) : PySem.W.alike (vwD a) (vwD b) = true := by
  unfold vwD
  rw [PySem.W.alike]
  exact vwD_alikeAll a b
theorem flat_ints (n : Nat) : ∀ l : List Nat, flatAll n (l.map nI) = true
  | [] => by cases n <;> rfl
  | x :: r => by
    have := flat_ints n r
    rw [List.map_cons]
    show (flatD n (.int (x : Int)) && flatAll n (r.map nI)) = true
    rw [this]
    cases n <;> rfl
theorem sgtD_flat {s : Sgt} (h : SgtOk s) : flatD 2 (sgtD s) = true := by
  have h1 := flat_ints 0 s.2
  have h2 : s.2.length ≤ 1000 := by have := h.1; omega
  simp [sgtD, flatD, flatAll, h1, h2]
theorem vwD_flatAll {n : Nat} : ∀ {v : Vw}, (∀ s ∈ v, SgtOk s) → flatAll 2 (v.map sgtD) = true
  | [], _ => rfl
  | s :: r, h => by
    rw [List.map_cons]
    show (flatD 2 (sgtD s) && flatAll 2 (r.map sgtD)) = true
    rw [sgtD_flat (h s List.mem_cons_self), vwD_flatAll (n := n) fun x hx => h x (List.mem_cons_of_mem _ hx)]
    rfl
theorem vwD_flat {v : Vw} (h : VwOk v) : flatD 3 (vwD v) = true := by
  show (decide ((v.map sgtD).length ≤ 1000) && flatAll 2 (v.map sgtD)) = true
  rw [vwD_flatAll (n := 0) h.2.1, List.length_map, decide_eq_true h.1]
  rfl
theorem sgtD_depth (s : Sgt) : (sgtD s).depth = 2 := by
  have := PySem.W.depth_ints (s.2.map toI)
  rw [List.map_map] at this
  have h2 : PyData.depthAll (s.2.map nI) = 0 := this
  simp [sgtD, PyData.depth, PyData.depthAll, h2]
theorem depthAll_sgt : ∀ v : Vw, PyData.depthAll (v.map sgtD) ≤ 2
  | [] => by simp [PyData.depthAll]
  | s :: r => by
    rw [List.map_cons, PyData.depthAll, sgtD_depth]
    have := depthAll_sgt r
    omega
theorem vwD_depth (v : Vw) : (vwD v).depth ≤ 3 := by
  have := depthAll_sgt v
  rw [vwD, PyData.depth]
  omega
end
end K61

end

section
set_option linter.all false
set_option maxRecDepth 100000
set_option maxHeartbeats 4000000
/-! K61, walk 3: is_sight, is_view, are_views. -/
namespace K61
open PySem PySem.Spec PyProof.Rows L2
section
variable {P : Program} {w : World} {K : PySem.W.Frag} {mg : Str → Option Value} {base : Heap} {cS cQ cT : Addr}
def tI (b : Bool) : Int := if b = true then 1 else 0
theorem ints_at {H : Hp} : ∀ {ns : List Nat} {vs : List V}, DpAll K H vs (ns.map nI) → vs = (ns.map toI).map V.int
  | [], _, h => by cases h; rfl
  | n :: r, _, h => by
    rw [List.map_cons] at h
    cases h with
    | cons h1 h2 =>
      have h1' : Dp K H _ (.int (n : Int)) := h1
      cases h1'
      rw [ints_at h2] <;> rfl
theorem sgt_at {H : Hp} {v : V} {s : Sgt} (h : Dp K H v (sgtD s)) : ∃ t u, v = .ref t ∧ SqT K H t [.int (tI s.1), .ref u] ∧ SqT K H u ((s.2.map toI).map V.int) := by
  unfold sgtD at h
  cases h with
  | tup h1 h2 =>
    cases h2 with
    | cons a b =>
      cases b with
      | cons c d =>
        cases d
        cases a
        cases c with
        | tup h3 h4 =>
          rw [ints_at h4] at h3
          exact ⟨_, _, rfl, h1, h3⟩
theorem sgt_of {H : Hp} {t u : Addr} {s : Sgt} (h1 : SqT K H t [.int (tI s.1), .ref u]) (h2 : SqT K H u ((s.2.map toI).map V.int)) : Dp K H (.ref t) (sgtD s) := by
  refine .tup h1 (.cons (.int _) (.cons (.tup h2 ?_) .nil))
  generalize s.2 = l
  induction l with
  | nil => exact .nil
  | cons n r ih => exact .cons (.int _) ih
theorem lots_ok {l : List Nat} (h : ∀ n ∈ l, n < 4) (hp : l.Pairwise (· < ·)) : (∀ n ∈ l.map toI, 0 ≤ n ∧ n < 4) ∧ (l.map toI).Pairwise (· < ·) := by
  refine ⟨fun n hn => ?_, List.pairwise_map.mpr (hp.imp fun {a b} z => by unfold toI; omega)⟩
  obtain ⟨m, hm, rfl⟩ := List.mem_map.mp hn
  have := h m hm
  unfold toI
  omega
theorem sc_is_sight : FnScope ["value"] ["value"] (defScope (top 53)) := ⟨rfl, rfl, rfl, by decide +kernel, rfl, by decide +kernel, by decide +kernel⟩
def spIsSight (K : PySem.W.Frag) : Sp := fun vs H Q _ => ∃ (v : V) (s : Sgt), vs = [v] ∧ Dp K H v (sgtD s) ∧ SgtOk s ∧ ∀ H', Same H H' → Q (.bl true) H'
theorem c_is_sight (e : Ev w K mg cS cQ cT) : C8.Cal P w K mg base 4 "is_sight" (spIsSight K) [] := by
  have c_is_within := c_is_within (P := P) (base := base) e
  have c_is_lot := c_is_lot (P := P) (base := base) e
  refine calD e.d_is_sight (fun _ _ _ _ _ _ us hl => match us, hl with | [_], _ => rfl) sc_is_sight (fun vs H Q E h => ?_) fun f cdv A outer s H vs Q E hr h => ?_
  · obtain ⟨v, s, rfl, _⟩ := h; rfl
  obtain ⟨v, g, rfl, hd, ok, q⟩ := h
  obtain ⟨t, u, rfl, ht, hu⟩ := sgt_at hd
  refine ⟨_, (pss_cons (ps_if (PW.pt (pw_or (pt_not (pt_val (pe_callB call_isiT rfl e.n_isinstance (by decide +kernel) (pa_cons (pv 0) (pa_cons (pe_tup (pa_cons (pe_ty (n := "list") e.n_list) (pa_cons (pe_ty (n := "tuple") e.n_tuple) pa_nil))) pa_nil))))) (pw_or1 (pt_cmpR op_ne (pe_callB call_len_seq rfl e.n_len (by decide +kernel) (pa_cons (pv 0) pa_nil)) pe_int (nomark _))))) (pss_one (ps_ret pe_bl)) pss_nil)
    (pss_one (ps_ret (pe_and (C8.pe_c c_is_within hr (by first | decide | omega) rfl (pa_cons (pe_ix ix_tup (pv 0) pe_int (fun _ _ => rfl)) (pa_cons pe_int (pa_cons pe_int pa_nil)))) (pe_one (C8.pe_c c_is_lot hr (by first | decide | omega) rfl (pa_cons (pe_ix ix_tup (pv 0) pe_int (fun _ _ => rfl)) (pa_cons (C8.pe_gc rfl e.g_MANY_THIRDS) pa_nil)))))))), ?_⟩
  refine ⟨_, rfl, (by show 2 ≤ sizeLine; decide), fun p hp => ?_⟩
  have sm : Same H (upd H p (.tup [.ty "list", .ty "tuple"])) := new1 hp
  refine ⟨_, p, _, _, _, true, rfl, upd_same, .cons (.ty "list") (.cons (.ty "tuple") .nil), ty_tup (sqT sm ht), ?_, true, rfl, ?_⟩
  · exact kitAny_cons (kit_ty (b := "list") (r := false) (by decide +kernel)) (fun _ => kitAny_cons (kit_ty (b := "tuple") (r := true) (by decide +kernel)) (fun z => by cases z) fun _ => rfl) fun z => by cases z
  refine ite_no rfl ?_
  refine ⟨_, rfl, t, _, rfl, .inr (sqT sm ht), rfl, _, rfl, ?_⟩
  refine ite_no rfl ?_
  refine ⟨_, rfl, t, _, _, _, rfl, rfl, sqT sm ht, atN (i := 0) rfl, _, 0, 1, rfl, _, rfl, ?_⟩
  have e1 : (decide ((0 : Int) ≤ tI g.1) && decide (tI g.1 ≤ 1)) = true := by cases g.1 <;> rfl
  rw [e1, if_pos rfl]
  obtain ⟨l1, l2⟩ := lots_ok ok.2.1 ok.2.2
  exact ⟨_, rfl, t, _, _, _, rfl, rfl, sqT sm ht, atN (i := 1) rfl, u, _, 4, rfl, sqT sm hu, by rw [List.length_map]; have := ok.1; omega, l1, l2, fun H' s' => q _ (Same.tr sm s')⟩
theorem sc_is_view : FnScope ["value", "each"] ["value"] (defScope (top 54)) := ⟨rfl, rfl, rfl, by decide +kernel, rfl, by decide +kernel, by decide +kernel⟩
def spIsView (K : PySem.W.Frag) : Sp := fun vs H Q _ => ∃ (v : V) (u : Vw), vs = [v] ∧ Dp K H v (vwD u) ∧ VwOk u ∧ ∀ H', Same H H' → Q (.bl true) H'
theorem al_sgt (u : Vw) : PySem.W.AllAlike (u.map sgtD) := PySem.W.AllAlike.of sgtD_alike
theorem al_vw (u : List Vw) : PySem.W.AllAlike (u.map vwD) := PySem.W.AllAlike.of vwD_alike
theorem c_is_view (e : Ev w K mg cS cQ cT) : C8.Cal P w K mg base 5 "is_view" (spIsView K) [] := by
  have c_is_sight := c_is_sight (P := P) (base := base) e
  have c_are_unlike := c_are_unlike (P := P) (base := base) e 2
  refine calD e.d_is_view (fun _ _ _ _ _ _ us hl => match us, hl with | [_], _ => rfl) sc_is_view (fun vs H Q E h => ?_) fun f cdv A outer s H vs Q E hr h => ?_
  · obtain ⟨v, s, rfl, _⟩ := h; rfl
  obtain ⟨v, u, rfl, hd, ok, q⟩ := h
  have hd0 := hd
  unfold vwD at hd
  cases hd with
  | @tup t xs _ ht hall =>
  obtain ⟨hl, hg⟩ := dpAll_get hall
  rw [List.length_map] at hl
  have hz := ok.1
  refine ⟨_, (pss_cons (ps_if (PW.pt (pw_or (pt_not (pt_val (pe_callB call_isiT rfl e.n_isinstance (by decide +kernel) (pa_cons (pv 0) (pa_cons (pe_tup (pa_cons (pe_ty (n := "list") e.n_list) (pa_cons (pe_ty (n := "tuple") e.n_tuple) pa_nil))) pa_nil))))) (pw_or1 (pt_not (pt_val (pe_callB (cr_all rfl) rfl e.n_all (by decide +kernel) (pa_cons (pe_lc (own := [("each", 1)]) (tt := tYes) rfl sc_is_view.nd (pi_tup (pv 0)) (blkOk_by (N := ["value", "each"]) (sc := defScope (top 54)) (by decide +kernel)) (fun _ _ _ _ _ => (pg_name (i := 1) sc_is_view.nd rfl (.inl rfl))) (fun _ _ _ _ _ => pts_nil) (fun _ _ _ _ _ => (C8.pe_c c_is_sight hr (by first | decide | omega) rfl (pa_cons (pv 1) pa_nil)))) pa_nil))))))) (pss_one (ps_ret pe_bl)) pss_nil)
    (pss_one (ps_ret (C8.pe_c c_are_unlike hr (by first | decide | omega) rfl (pa_cons (pv 0) pa_nil))))), ?_⟩
  refine ⟨_, rfl, (by show 2 ≤ sizeLine; decide), fun p hp => ?_⟩
  have sm : Same H (upd H p (.tup [.ty "list", .ty "tuple"])) := new1 hp
  refine ⟨_, p, _, _, _, true, rfl, upd_same, .cons (.ty "list") (.cons (.ty "tuple") .nil), ty_tup (sqT sm ht), ?_, true, rfl, ?_⟩
  · exact kitAny_cons (kit_ty (b := "list") (r := false) (by decide +kernel)) (fun _ => kitAny_cons (kit_ty (b := "tuple") (r := true) (by decide +kernel)) (fun z => by cases z) fun _ => rfl) fun z => by cases z
  refine ite_no rfl ?_
  refine ⟨_, rfl, t, rfl, ⟨_, sqT sm ht⟩, fun D hD => ?_⟩
  refine lc_told (walk_tup (xs := xs)) hD (by omega) (List.replicate xs.length (V.bl true)) (List.length_replicate ..) (fun H' s' => sqT (Same.tr sm s') ht) (fun i x y H1 H2 ys Kk hy s1 _ hY hk => ?_) fun H' s1 hD1 => ?_
  · obtain ⟨rfl, hx⟩ := hY
    have e1 : y = .bl true := List.eq_of_mem_replicate (List.mem_of_getElem? hy)
    subst e1
    have hi : i < u.length := by rw [← hl]; exact (List.getElem?_eq_some_iff.mp hx).1
    have hu := List.getElem?_eq_getElem hi
    refine ⟨rfl, _, rfl, x, u[i], rfl, dp_same (Same.tr sm s1) _ _ (hg i x _ hx (by rw [List.getElem?_map, hu] <;> rfl)), ok.2.1 _ (List.mem_of_getElem? hu), fun H3 s3 => hk _ s3⟩
  · refine ⟨D, List.replicate xs.length true, rfl, .inl (.inl (by rw [hD1, List.map_replicate])), ?_⟩
    refine ⟨true, congrArg V.bl (all_true _), ?_⟩
    refine ite_no rfl ?_
    have s2 := Same.tr sm s1
    refine ⟨_, rfl, _, _, rfl, dp_same s2 _ _ hd0, by rw [List.length_map]; exact hz, vwD_flatAll (n := 0) ok.2.1, al_sgt u, fun d hd => ?_, List.pairwise_map.mpr ok.2.2, fun H3 s3 => q _ (Same.tr s2 s3)⟩
    obtain ⟨s, _, rfl⟩ := List.mem_map.mp hd
    exact ⟨by simp [sgtD], by rw [sgtD_depth]; decide⟩
theorem sc_are_views : FnScope ["value", "each"] ["value"] (defScope (top 55)) := ⟨rfl, rfl, rfl, by decide +kernel, rfl, by decide +kernel, by decide +kernel⟩
def spAreViews (K : PySem.W.Frag) : Sp := fun vs H Q _ => ∃ (v : V) (u : List Vw), vs = [v] ∧ Dp K H v (.tuple (u.map vwD)) ∧ VwsOk u ∧ ∀ H', Same H H' → Q (.bl true) H'
theorem vws_flat : ∀ {u : List Vw}, (∀ v ∈ u, VwOk v) → flatAll 3 (u.map vwD) = true
  | [], _ => rfl
  | s :: r, h => by
    rw [List.map_cons]
    show (flatD 3 (vwD s) && flatAll 3 (r.map vwD)) = true
    rw [vwD_flat (h s List.mem_cons_self), vws_flat fun x hx => h x (List.mem_cons_of_mem _ hx)]
    rfl
theorem c_are_views (e : Ev w K mg cS cQ cT) : C8.Cal P w K mg base 6 "are_views" (spAreViews K) [] := by
  have c_is_view := c_is_view (P := P) (base := base) e
  have c_are_unlike := c_are_unlike (P := P) (base := base) e 3
  refine calD e.d_are_views (fun _ _ _ _ _ _ us hl => match us, hl with | [_], _ => rfl) sc_are_views (fun vs H Q E h => ?_) fun f cdv A outer s H vs Q E hr h => ?_
  · obtain ⟨v, s, rfl, _⟩ := h; rfl
  obtain ⟨v, u, rfl, hd, ok, q⟩ := h
  have hd0 := hd
  cases hd with
  | @tup t xs _ ht hall =>
  obtain ⟨hl, hg⟩ := dpAll_get hall
  rw [List.length_map] at hl
  have hz1 := ok.1
  have hz := ok.2.1
  refine ⟨_, (pss_cons (ps_if (PW.pt (pw_or (pt_not (pt_val (pe_callB call_isiT rfl e.n_isinstance (by decide +kernel) (pa_cons (pv 0) (pa_cons (pe_tup (pa_cons (pe_ty (n := "list") e.n_list) (pa_cons (pe_ty (n := "tuple") e.n_tuple) pa_nil))) pa_nil))))) (pw_or1 (pt_not (pt_chain op_le op_le pe_int (pe_callB call_len_seq rfl e.n_len (by decide +kernel) (pa_cons (pv 0) pa_nil)) (C8.pe_gc rfl e.g_MOST_VIEWS)))))) (pss_one (ps_ret pe_bl)) pss_nil)
    (pss_one (ps_ret (pe_and (pe_callB (cr_all rfl) rfl e.n_all (by decide +kernel) (pa_cons (pe_lc (own := [("each", 1)]) (tt := tYes) rfl sc_are_views.nd (pi_tup (pv 0)) (blkOk_by (N := ["value", "each"]) (sc := defScope (top 55)) (by decide +kernel)) (fun _ _ _ _ _ => (pg_name (i := 1) sc_are_views.nd rfl (.inl rfl))) (fun _ _ _ _ _ => pts_nil) (fun _ _ _ _ _ => (C8.pe_c c_is_view hr (by first | decide | omega) rfl (pa_cons (pv 1) pa_nil)))) pa_nil)) (pe_one (C8.pe_c c_are_unlike hr (by first | decide | omega) rfl (pa_cons (pv 0) pa_nil))))))), ?_⟩
  refine ⟨_, rfl, (by show 2 ≤ sizeLine; decide), fun p hp => ?_⟩
  have sm : Same H (upd H p (.tup [.ty "list", .ty "tuple"])) := new1 hp
  refine ⟨_, p, _, _, _, true, rfl, upd_same, .cons (.ty "list") (.cons (.ty "tuple") .nil), ty_tup (sqT sm ht), ?_, true, rfl, ?_⟩
  · exact kitAny_cons (kit_ty (b := "list") (r := false) (by decide +kernel)) (fun _ => kitAny_cons (kit_ty (b := "tuple") (r := true) (by decide +kernel)) (fun z => by cases z) fun _ => rfl) fun z => by cases z
  refine ite_no rfl ?_
  refine ⟨_, rfl, t, _, rfl, .inr (sqT sm ht), _, _, rfl, rfl, true, congrArg V.bl (decide_eq_true (by rw [hl]; omega)), ?_⟩
  refine ⟨_, _, rfl, rfl, true, congrArg V.bl (decide_eq_true (by rw [hl]; omega)), ?_⟩
  refine ite_no rfl ?_
  refine ⟨_, rfl, t, rfl, ⟨_, sqT sm ht⟩, fun D hD => ?_⟩
  refine lc_told (walk_tup (xs := xs)) hD (by omega) (List.replicate xs.length (V.bl true)) (List.length_replicate ..) (fun H' s' => sqT (Same.tr sm s') ht) (fun i x y H1 H2 ys Kk hy s1 _ hY hk => ?_) fun H' s1 hD1 => ?_
  · obtain ⟨rfl, hx⟩ := hY
    have e1 : y = .bl true := List.eq_of_mem_replicate (List.mem_of_getElem? hy)
    subst e1
    have hi : i < u.length := by rw [← hl]; exact (List.getElem?_eq_some_iff.mp hx).1
    have hu := List.getElem?_eq_getElem hi
    refine ⟨rfl, _, rfl, x, u[i], rfl, dp_same (Same.tr sm s1) _ _ (hg i x _ hx (by rw [List.getElem?_map, hu] <;> rfl)), ok.2.2.1 _ (List.mem_of_getElem? hu), fun H3 s3 => hk _ s3⟩
  · refine ⟨D, List.replicate xs.length true, rfl, .inl (.inl (by rw [hD1, List.map_replicate])), ?_⟩
    refine ⟨true, congrArg V.bl (all_true _), ?_⟩
    have s2 := Same.tr sm s1
    refine ⟨_, rfl, _, _, rfl, dp_same s2 _ _ hd0, by rw [List.length_map]; omega, vws_flat ok.2.2.1, al_vw u, fun d hd => ?_, List.pairwise_map.mpr ok.2.2.2, fun H3 s3 => q _ (Same.tr s2 s3)⟩
    obtain ⟨s, _, rfl⟩ := List.mem_map.mp hd
    exact ⟨by simp [vwD], by have := vwD_depth s; omega⟩
end
end K61

end

section
set_option linter.all false
set_option maxRecDepth 100000
set_option maxHeartbeats 4000000
/-! K61, walk 4: places, ties_of_third, steps_of. -/
namespace K61
open PySem PySem.Spec PyProof.Rows L2
section
variable {P : Program} {w : World} {K : PySem.W.Frag} {mg : Str → Option Value} {base : Heap} {cS cQ cT : Addr}
/-! ### data without lists -/
mutual
def tupOnly : PyData → Bool
  | .int _ => true
  | .tuple ds => tupAll ds
  | _ => false
def tupAll : List PyData → Bool
  | [] => true
  | d :: ds => tupOnly d && tupAll ds
end
mutual
theorem dp_only {H H' : Hp} (s : ∀ a xs, SqT K H a xs → SqT K H' a xs) : ∀ (d : PyData) (v : V), tupOnly d = true → Dp K H v d → Dp K H' v d
  | .int _, _, _, h => by cases h; exact .int _
  | .tuple ds, _, f, h => by
    cases h with
    | tup h1 h2 => exact .tup (s _ _ h1) (dpAll_only s ds _ f h2)
  | .none, _, f, _ => by simp [tupOnly] at f
  | .bool _, _, f, _ => by simp [tupOnly] at f
  | .str _, _, f, _ => by simp [tupOnly] at f
  | .list _, _, f, _ => by simp [tupOnly] at f
  | .dict _, _, f, _ => by simp [tupOnly] at f
theorem dpAll_only {H H' : Hp} (s : ∀ a xs, SqT K H a xs → SqT K H' a xs) : ∀ (ds : List PyData) (vs : List V), tupAll ds = true → DpAll K H vs ds → DpAll K H' vs ds
  | [], _, _, h => by cases h; exact .nil
  | d :: ds, _, f, h => by
    have f' : (tupOnly d && tupAll ds) = true := f
    rw [Bool.and_eq_true] at f'
    cases h with
    | cons h1 h2 => exact .cons (dp_only s d _ f'.1 h1) (dpAll_only s ds _ f'.2 h2)
end
theorem tupAll_of : ∀ {ds : List PyData}, (∀ d ∈ ds, tupOnly d = true) → tupAll ds = true
  | [], _ => rfl
  | d :: ds, h => by
    show (tupOnly d && tupAll ds) = true
    rw [h d List.mem_cons_self, tupAll_of fun x hx => h x (List.mem_cons_of_mem _ hx)]
    rfl
theorem sgtD_only (s : Sgt) : tupOnly (sgtD s) = true := by
  have : tupAll (s.2.map nI) = true := tupAll_of fun d hd => by
    obtain ⟨n, _, rfl⟩ := List.mem_map.mp hd
    rfl
  show (true && (tupAll (s.2.map nI) && true)) = true
  rw [this]
  rfl
theorem vwD_only (v : Vw) : tupOnly (vwD v) = true := tupAll_of fun d hd => by
  obtain ⟨n, _, rfl⟩ := List.mem_map.mp hd
  exact sgtD_only n
def prD (p : Nat × Nat) : PyData := .tuple [nI p.1, nI p.2]
def tiesD (ts : List (Nat × Nat)) : PyData := .tuple (ts.map prD)
theorem tiesD_only (ts : List (Nat × Nat)) : tupOnly (tiesD ts) = true := tupAll_of fun d hd => by
  obtain ⟨n, _, rfl⟩ := List.mem_map.mp hd
  rfl
/-- the place at v -/
def PosAt (K : PySem.W.Frag) (H : Hp) (v : V) : Pl → Prop
  | .zero => ∃ p b, v = .ref p ∧ SqT K H p [.non, .non, .ref b] ∧ Dp K H (.ref b) (tiesD [])
  | .one u => ∃ p x b, v = .ref p ∧ SqT K H p [.ref x, .non, .ref b] ∧ Dp K H (.ref x) (vwD u) ∧ VwOk u ∧ Dp K H (.ref b) (tiesD [])
  | .two u s ts => ∃ p x y b, v = .ref p ∧ SqT K H p [.ref x, .ref y, .ref b] ∧ Dp K H (.ref x) (vwD u) ∧ VwOk u ∧ Dp K H (.ref y) (sgtD s) ∧ SgtOk s ∧ Dp K H (.ref b) (tiesD ts)
theorem PosAt.to {H H' : Hp} (s : ∀ a xs, SqT K H a xs → SqT K H' a xs) {v : V} : ∀ {p : Pl}, PosAt K H v p → PosAt K H' v p
  | .zero, ⟨p, b, h1, h2, h3⟩ => ⟨p, b, h1, s _ _ h2, dp_only s _ _ (tiesD_only _) h3⟩
  | .one u, ⟨p, x, b, h1, h2, h3, h4, h5⟩ => ⟨p, x, b, h1, s _ _ h2, dp_only s _ _ (vwD_only _) h3, h4, dp_only s _ _ (tiesD_only _) h5⟩
  | .two u g ts, ⟨p, x, y, b, h1, h2, h3, h4, h5, h6, h7⟩ => ⟨p, x, y, b, h1, s _ _ h2, dp_only s _ _ (vwD_only _) h3, h4, dp_only s _ _ (sgtD_only _) h5, h6, dp_only s _ _ (tiesD_only _) h7⟩
/-- the step at y -/
def StepAt (K : PySem.W.Frag) (H : Hp) (y : V) (st : Nat × Pl) : Prop := ∃ a u, y = .ref a ∧ SqT K H a [.int (st.1 : Int), u] ∧ PosAt K H u st.2
theorem StepAt.to {H H' : Hp} (s : ∀ a xs, SqT K H a xs → SqT K H' a xs) {v : V} {st : Nat × Pl} : StepAt K H v st → StepAt K H' v st
  | ⟨a, u, h1, h2, h3⟩ => ⟨a, u, h1, s _ _ h2, h3.to s⟩
theorem same_sq {H H' : Hp} (s : Same H H') : ∀ a xs, SqT K H a xs → SqT K H' a xs := fun _ _ h => sqT s h
/-- values and what they stand for, side by side -/
def Each {α : Type} (R : V → α → Prop) (ys : List V) (l : List α) : Prop := ys.length = l.length ∧ ∀ (i : Nat) y u, ys[i]? = some y → l[i]? = some u → R y u
theorem Each.nil {α : Type} {R : V → α → Prop} : Each R [] [] := ⟨rfl, fun i y u h => by simp at h⟩
theorem Each.cons {α : Type} {R : V → α → Prop} {y : V} {u : α} {ys : List V} {l : List α} (h : R y u) (t : Each R ys l) : Each R (y :: ys) (u :: l) := by
  refine ⟨congrArg Nat.succ t.1, fun i z v hz hv => ?_⟩
  cases i with
  | zero =>
    simp only [List.getElem?_cons_zero, Option.some.injEq] at hz hv
    subst hz hv
    exact h
  | succ i =>
    rw [List.getElem?_cons_succ] at hz hv
    exact t.2 i z v hz hv
theorem Each.cast {α : Type} {R : V → α → Prop} {ys zs : List V} {l : List α} (h : ys = zs) (k : Each R zs l) : Each R ys l := by
  rw [h]
  exact k
theorem Each.mono {α : Type} {R R' : V → α → Prop} {ys : List V} {l : List α} (h : Each R ys l) (m : ∀ y u, R y u → R' y u) : Each R' ys l := ⟨h.1, fun i y u a b => m _ _ (h.2 i y u a b)⟩
theorem Each.map {α β : Type} {R : V → β → Prop} {ys : List V} {l : List α} {f : α → β} (h : Each (fun y a => R y (f a)) ys l) : Each R ys (l.map f) := by
  refine ⟨by rw [List.length_map]; exact h.1, fun i y u hy hu => ?_⟩
  rw [List.getElem?_map] at hu
  cases e : l[i]? with
  | none => rw [e] at hu; cases hu
  | some a =>
    rw [e] at hu
    cases hu
    exact h.2 i y a hy e
theorem ties_dp {H : Hp} {b : Addr} {ys : List V} {ts : List (Nat × Nat)} (hb : SqT K H b ys) (h : Each (fun y p => Dp K H y (prD p)) ys ts) : Dp K H (.ref b) (tiesD ts) := by
  refine .tup hb (dpAll_of (by rw [List.length_map]; exact h.1) fun i v d hv hd => ?_)
  rw [List.getElem?_map] at hd
  cases e : ts[i]? with
  | none => rw [e] at hd; cases hd
  | some p =>
    rw [e] at hd
    cases hd
    exact h.2 i v p hv e
theorem dp_ties {H : Hp} {v : V} {ts : List (Nat × Nat)} (h : Dp K H v (tiesD ts)) : ∃ b ys, v = .ref b ∧ SqT K H b ys ∧ Each (fun y p => Dp K H y (prD p)) ys ts := by
  unfold tiesD at h
  cases h with
  | tup h1 h2 =>
    obtain ⟨l, g⟩ := dpAll_get h2
    refine ⟨_, _, rfl, h1, by rw [l, List.length_map], fun i y p hy hp => g i y _ hy (by rw [List.getElem?_map, hp] <;> rfl)⟩
theorem pr_new {H : Hp} {a : Addr} {i j : Nat} (h : H a = some (.tup [.int (i : Int), .int (j : Int)])) : Dp K H (.ref a) (prD (i, j)) := .tup (.inl (.inl h)) (.cons (.int _) (.cons (.int _) .nil))
theorem pr_sq {H : Hp} {a : Addr} {i j : Nat} (h : SqT K H a [.int (i : Int), .int (j : Int)]) : Dp K H (.ref a) (prD (i, j)) := .tup h (.cons (.int _) (.cons (.int _) .nil))
theorem Each.app {α : Type} {R : V → α → Prop} {ys zs : List V} {l m : List α} (h : Each R ys l) (k : Each R zs m) : Each R (ys ++ zs) (l ++ m) := by
  refine ⟨by rw [List.length_append, List.length_append, h.1, k.1], fun i y u hy hu => ?_⟩
  have hl := h.1
  by_cases c : i < ys.length
  · rw [List.getElem?_append_left c] at hy
    rw [List.getElem?_append_left (by omega)] at hu
    exact h.2 i y u hy hu
  · rw [List.getElem?_append_right (by omega)] at hy
    rw [List.getElem?_append_right (by omega), ← hl] at hu
    exact k.2 _ y u hy hu
theorem sc_ties_of_third : FnScope ["number", "found"] ["number"] (defScope (top 57)) := ⟨rfl, rfl, rfl, by decide +kernel, rfl, by decide +kernel, by decide +kernel⟩
def spTot (K : PySem.W.Frag) : Sp := fun vs H Q _ => ∃ k : Nat, vs = [.int (k : Int)] ∧ ∀ l H' ys, Same H H' → H' l = some (.lst ys) → Each (fun y p => Dp K H' y (prD p)) ys (tot k) → Q (.ref l) H'
theorem c_ties_of_third (e : Ev w K mg cS cQ cT) : C8.Cal P w K mg base 1 "ties_of_third" (spTot K) [] := by
  refine calD e.d_ties_of_third (fun _ _ _ _ _ _ us hl => match us, hl with | [_], _ => rfl) sc_ties_of_third (fun vs H Q E h => ?_) fun f cdv A outer s H vs Q E hr h => ?_
  · obtain ⟨v, rfl, _⟩ := h; rfl
  obtain ⟨k, rfl, q⟩ := h
  refine ⟨_, (pss_cons (ps_set (i := 1) sc_ties_of_third.nd rfl (.inl rfl) (pe_lst pa_nil))
    (C8.pss_cut (ps_if (pt_cmpR op_ge (pv 0) pe_int (nomark _)) (pss_one (ps_expr (pe_bm PySem.F.plainAttrs_list PySem.F.slot_list_append PySem.F.type_list_append mt_append (pv 1) (pa_cons (pe_tup (pa_cons pe_int (pa_cons pe_int pa_nil))) pa_nil)))) pss_nil)
    (pss_cons (ps_if (pt_cmpR op_eq (pe_op op_modN (pv 0) pe_int) pe_int (nomark _)) (pss_one (ps_expr (pe_bm PySem.F.plainAttrs_list PySem.F.slot_list_append PySem.F.type_list_append mt_append (pv 1) (pa_cons (pe_tup (pa_cons pe_int (pa_cons pe_int pa_nil))) pa_nil)))) pss_nil)
    (pss_one (ps_ret (pv 1)))))), ?_⟩
  refine ⟨Nat.zero_le _, fun l hl => ?_⟩
  refine ⟨fun σ' H' => σ' = [some (.int (k : Int)), some (.ref l)] ∧ ∃ ys, Same H H' ∧ H' l = some (.lst ys) ∧ ys.length ≤ 1 ∧ Each (fun y p => Dp K H' y (prD p)) ys (if 2 ≤ k then [(0, 2)] else []), ?_, ?_⟩
  · refine ⟨_, rfl, _, _, rfl, rfl, _, rfl, ?_⟩
    refine ite2 (fun c => ?_) fun c => ?_
    · have ck : 2 ≤ k := by have := of_decide_eq_true c; omega
      refine ⟨_, rfl, .inl ⟨rfl, _, .inl (.inl upd_same)⟩, (by show 2 ≤ sizeLine; decide), fun a ha => ?_⟩
      have ne : l ≠ a := fun z => by rw [z, upd_same] at ha; cases ha
      refine ⟨l, [], _, rfl, rfl, (by rw [upd_ne ne, upd_same]), (by show 0 < sizeLine; decide), rfl, _, same3 hl (same2 (new1 hl) ha), upd_same, Nat.le_refl 1, ?_⟩
      rw [if_pos ck]
      exact .cons (pr_new (i := 0) (j := 2) (by rw [upd_ne (Ne.symm ne), upd_same] <;> rfl)) .nil
    · have ck : ¬ 2 ≤ k := by have := of_decide_eq_false (Bool.eq_false_iff.mpr c); omega
      exact ⟨rfl, [], new1 hl, upd_same, Nat.zero_le _, by rw [if_neg ck]; exact .nil⟩
  · rintro σ' H' ⟨rfl, ys, s1, hl1, hz, he⟩
    refine ⟨_, rfl, _, _, rfl, rfl, (show (2 : Int) ≠ 0 by decide), rfl, _, rfl, ?_⟩
    have hm : (k : Int).fmod 2 = ((k % 2 : Nat) : Int) := by rw [Int.fmod_eq_emod_of_nonneg _ (by decide)]; omega
    refine ite2 (fun c => ?_) fun c => ?_
    · have ck : k % 2 = 1 := by
        have z := V.int.inj (of_decide_eq_true c)
        omega
      refine ⟨_, rfl, .inl ⟨rfl, _, .inl (.inl hl1)⟩, (by show 2 ≤ sizeLine; decide), fun a ha => ?_⟩
      have ne : l ≠ a := fun z => by rw [z, ha] at hl1; cases hl1
      refine ⟨l, ys, _, rfl, rfl, (by rw [upd_ne ne]; exact hl1), smallLt (m := 1) hz, ?_⟩
      refine ⟨_, rfl, q l _ (ys ++ [.ref a]) (same3 hl (same2 s1 ha)) upd_same ?_⟩
      unfold tot
      refine .app (he.mono fun y p d => dp_only (fun b xs h => ?_) _ _ rfl d) ?_
      · exact sq_but (D := l) (zs := ys) (by rw [upd_ne ne]; exact hl1) .upd b xs (sqT (new1 ha) h)
      · rw [if_pos ck]
        exact .cons (pr_new (i := 1) (j := 2) (by rw [upd_ne (Ne.symm ne), upd_same] <;> rfl)) .nil
    · have ck : ¬ k % 2 = 1 := fun z => by
        have := of_decide_eq_false (Bool.eq_false_iff.mpr c)
        exact this (congrArg V.int (by omega))
      refine ⟨_, rfl, q l _ ys s1 hl1 ?_⟩
      unfold tot
      rw [if_neg ck, List.append_nil]
      exact he
theorem sc_steps_of : FnScope ["views", "position", "view", "sight", "ties", "others", "thirds", "each", "number"] ["views", "position"] (defScope (top 58)) := ⟨rfl, rfl, rfl, by decide +kernel, rfl, by decide +kernel, by decide +kernel⟩
def spSteps (K : PySem.W.Frag) : Sp := fun vs H Q _ => ∃ (v x : V) (u : List Vw) (p : Pl), vs = [v, x] ∧ Dp K H v (.tuple (u.map vwD)) ∧ VwsOk u ∧ PosAt K H x p ∧ p.ties.length ≤ 1000 ∧
  ∀ l H' ys, Same H H' → H' l = some (.lst ys) → Each (fun y st => StepAt K H' y st) ys (steps u p) → Q (.ref l) H'
theorem c_steps_of (e : Ev w K mg cS cQ cT) : C8.Cal P w K mg base 2 "steps_of" (spSteps K) [] := by
  have c_ties_of_third := c_ties_of_third (P := P) (base := base) e
  refine calD e.d_steps_of (fun _ _ _ _ _ _ us hl => match us, hl with | [_, _], _ => rfl) sc_steps_of (fun vs H Q E h => ?_) fun f cdv A outer s H vs Q E hr h => ?_
  · obtain ⟨v, x, u, p, rfl, _⟩ := h; rfl
  obtain ⟨v, x, u, p, rfl, hd, ok, hp, hlt, q⟩ := h
  refine ⟨_, (pss_cons (ps_asg (pv 1) (pg_tup rfl (pgs_cons (pg_name (i := 2) sc_steps_of.nd rfl (.inr rfl)) (pgs_cons (pg_name (i := 3) sc_steps_of.nd rfl (.inr rfl)) (pgs_cons (pg_name (i := 4) sc_steps_of.nd rfl (.inr rfl)) pgs_nil)))))
    (pss_cons (ps_if (pt_cmpR op_isN (pv 2) pe_non (nomark _)) (pss_one (ps_ret (pe_lc (own := [("each", 7)]) (tt := tYes) rfl sc_steps_of.nd (pi_tup (pv 0)) (blkOk_by (N := ["views", "position", "view", "sight", "ties", "others", "thirds", "each", "number"]) (sc := defScope (top 58)) (by decide +kernel)) (fun _ _ _ _ _ => (pg_name (i := 7) sc_steps_of.nd rfl (.inl rfl))) (fun _ _ _ _ _ => pts_nil) (fun _ _ _ _ _ => (pe_tup (pa_cons pe_int (pa_cons (pe_tup (pa_cons (pv 7) (pa_cons pe_non (pa_cons (pe_tup pa_nil) pa_nil)))) pa_nil))))))) pss_nil)
    (pss_cons (ps_if (pt_cmpR op_isN (pv 3) pe_non (nomark _)) (pss_cons (ps_setLc (i := 5) (own := [("each", 7)]) (tt := tYes) rfl sc_steps_of.nd rfl rfl (sw_true rfl rfl rfl (by decide +kernel)) (pi_tup (pv 2)) (blkOk_by (N := ["views", "position", "view", "sight", "ties", "others", "thirds", "each", "number"]) (sc := defScope (top 58)) (by decide +kernel)) (fun _ _ _ _ _ => (pg_name (i := 7) sc_steps_of.nd rfl (.inl rfl))) (fun _ _ _ _ _ => pts_nil) (fun _ _ _ _ _ => (pe_tup (pa_cons pe_int (pa_cons (pe_tup (pa_cons (pv 2) (pa_cons (pv 7) (pa_cons (pe_ifExp (pt_cmpR op_eq (pe_ix (ixTK (K := K) rfl) (pv 7) pe_int (fun _ _ => rfl)) pe_int (nomark _)) (pe_tup (pa_cons (pe_tup (pa_cons pe_int (pa_cons pe_int pa_nil))) pa_nil)) (pe_tup pa_nil)) pa_nil)))) pa_nil)))))
      (pss_one (ps_ret (pe_lst (pa_cons (pe_tup (pa_cons pe_int (pa_cons (pv 1) pa_nil))) (pa_starK (K := K) rfl (pv 5) pa_nil)))))) pss_nil)
    (pss_cons (ps_setLc (i := 6) (own := [("number", 8)]) (tt := tYes) rfl sc_steps_of.nd rfl rfl (sw_true rfl rfl rfl (by decide +kernel)) (pi_tup (pe_ix ix_tup (pv 3) pe_int (fun _ _ => rfl))) (blkOk_by (N := ["views", "position", "view", "sight", "ties", "others", "thirds", "each", "number"]) (sc := defScope (top 58)) (by decide +kernel)) (fun _ _ _ _ _ => (pg_name (i := 8) sc_steps_of.nd rfl (.inl rfl))) (fun _ _ _ _ _ => pts_nil) (fun _ _ _ _ _ => (pe_tup (pa_cons pe_int (pa_cons (pe_tup (pa_cons (pv 2) (pa_cons (pv 3) (pa_cons (pe_tup (pa_starK (K := K) rfl (pv 4) (pa_starK (K := K) rfl (C8.pe_c c_ties_of_third hr (by first | decide | omega) rfl (pa_cons (pv 8) pa_nil)) pa_nil))) pa_nil)))) pa_nil)))))
    (pss_one (ps_ret (pe_lst (pa_cons (pe_tup (pa_cons pe_int (pa_cons (pv 1) pa_nil))) (pa_cons (pe_tup (pa_cons pe_int (pa_cons (pv 1) pa_nil))) (pa_starK (K := K) rfl (pv 6) pa_nil)))))))))), ?_⟩
  cases p with
  | zero =>
    obtain ⟨px, b, rfl, hpx, hb⟩ := hp
    cases hd with
    | @tup t xs _ ht hall =>
    obtain ⟨hl, hg⟩ := dpAll_get hall
    rw [List.length_map] at hl
    have hz := ok.2.1
    refine ⟨_, rfl, px, _, rfl, hpx, rfl, _, _, rfl, _, _, rfl, _, _, rfl, rfl, ?_⟩
    refine ⟨_, rfl, rfl, true, rfl, ?_⟩
    refine ite_yes rfl ?_
    refine ⟨_, rfl, t, rfl, ⟨_, ht⟩, fun D hD => ?_⟩
    refine lc_rel (walk_tup (xs := xs)) hD (by omega) (fun i y H' => ∃ g, u[i]? = some g ∧ StepAt K H' y (0, .one g)) (fun i y H1 H2 zs h1 h2 ⟨g, hg, r⟩ => ⟨g, hg, r.to (sq_but h1 h2)⟩)
      (fun H' s' => sqT s' ht) (fun i x H1 H2 ys Kk hi s1 hD1 hY hk => ?_) fun H' ys s1 hD1 hlen hr' => ?_
    · obtain ⟨rfl, hx⟩ := hY
      have hi' : i < u.length := by omega
      have hu := List.getElem?_eq_getElem hi'
      have hdx : Dp K H2 x (vwD u[i]) := dp_same s1 _ _ (hg i x _ hx (by rw [List.getElem?_map, hu] <;> rfl))
      have hx2 := hdx
      unfold vwD at hx2
      cases hx2 with
      | @tup ax _ _ _ _ =>
      refine ⟨rfl, _, rfl, Nat.zero_le _, fun b hb => ⟨(by show 3 ≤ sizeLine; decide), fun c hc => ⟨(by show 2 ≤ sizeLine; decide), fun o ho => ?_⟩⟩⟩
      have z1 := new1 (o := .tup []) hb
      have z2 := same2 (o := .tup [.ref ax, .non, .ref b]) z1 hc
      have z3 := same2 (o := .tup [.int 0, .ref c]) z2 ho
      refine hk _ _ z3 ⟨_, hu, o, .ref c, rfl, .inl (.inl upd_same), c, ax, b, rfl, .inl (.inl (new1 ho _ _ upd_same)), dp_same z3 _ _ hdx, ok.2.2.1 _ (List.mem_of_getElem? hu), .tup (.inl (.inl ?_)) .nil⟩
      exact new1 ho _ _ (new1 hc _ _ upd_same)
    · exact q D H' ys s1 hD1 (Each.map ⟨by omega, fun i y g hy hg' => by
        obtain ⟨g2, e2, r⟩ := hr' i y hy
        rw [hg'] at e2
        cases e2
        exact r⟩)
  | one v =>
    obtain ⟨px, ax, b, rfl, hpx, hv, hok, hb⟩ := hp
    have hv2 := hv
    unfold vwD at hv2
    cases hv2 with
    | @tup _ xs _ ht hall =>
    obtain ⟨hl, hg⟩ := dpAll_get hall
    rw [List.length_map] at hl
    have hz := hok.1
    refine ⟨_, rfl, px, _, rfl, hpx, rfl, _, _, rfl, _, _, rfl, _, _, rfl, rfl, ?_⟩
    refine ⟨_, rfl, rfl, false, rfl, ?_⟩
    refine ite_no rfl ?_
    refine ⟨_, rfl, rfl, true, rfl, ?_⟩
    refine ite_yes rfl ?_
    refine ⟨_, rfl, ax, rfl, ⟨_, ht⟩, fun D hD => ?_⟩
    refine lc_rel (walk_tup (xs := xs)) hD (by omega) (fun i y H' => ∃ g, v[i]? = some g ∧ StepAt K H' y (1, .two v g (tie2 g.1))) (fun i y H1 H2 zs h1 h2 ⟨g, hg, r⟩ => ⟨g, hg, r.to (sq_but h1 h2)⟩)
      (fun H' s' => sqT s' ht) (fun i x H1 H2 ys Kk hi s1 hD1 hY hk => ?_) fun H' ys s1 hD1 hlen hr' => ?_
    · obtain ⟨rfl, hx⟩ := hY
      have hi' : i < v.length := by omega
      have hu := List.getElem?_eq_getElem hi'
      have hdx : Dp K H2 x (sgtD v[i]) := dp_same s1 _ _ (hg i x _ hx (by rw [List.getElem?_map, hu] <;> rfl))
      obtain ⟨gt, gu, rfl, hgt, hgu⟩ := sgt_at hdx
      have okg := hok.2.1 _ (List.mem_of_getElem? hu)
      refine ⟨rfl, _, rfl, _, rfl, _, rfl, gt, _, _, _, rfl, rfl, hgt, atN (i := 0) rfl, rfl, _, rfl, ?_⟩
      refine ite2 (fun c => ?_) fun c => ?_
      · have c1 : v[i].1 = true := by
          have z := V.int.inj (of_decide_eq_true c)
          cases e : v[i].1 with
          | true => rfl
          | false => rw [e] at z; cases z
        refine ⟨(by show 2 ≤ sizeLine; decide), fun t1 h1 => ⟨(by show 1 ≤ sizeLine; decide), fun t2 h2 => ⟨(by show 3 ≤ sizeLine; decide), fun t3 h3 => ⟨(by show 2 ≤ sizeLine; decide), fun t4 h4 => ?_⟩⟩⟩⟩
        have z1 := new1 (o := .tup [.int 0, .int 1]) h1
        have z2 := same2 (o := .tup [.ref t1]) z1 h2
        have z3 := same2 (o := .tup [.ref ax, .ref gt, .ref t2]) z2 h3
        have z4 := same2 (o := .tup [.int 1, .ref t3]) z3 h4
        refine hk _ _ z4 ⟨_, hu, t4, .ref t3, rfl, .inl (.inl upd_same), t3, ax, gt, t2, rfl, .inl (.inl (new1 h4 _ _ upd_same)), dp_same (Same.tr s1 z4) _ _ hv, hok, dp_same z4 _ _ hdx, okg, ?_⟩
        rw [c1]
        refine ties_dp (ys := [.ref t1]) (.inl (.inl (new1 h4 _ _ (new1 h3 _ _ upd_same)))) (.cons (pr_new (i := 0) (j := 1) ?_) .nil)
        exact new1 h4 _ _ (new1 h3 _ _ (new1 h2 _ _ upd_same))
      · have c1 : v[i].1 = false := by
          cases e : v[i].1 with
          | false => rfl
          | true =>
            have z := of_decide_eq_false (Bool.eq_false_iff.mpr c)
            rw [e] at z
            exact absurd rfl z
        refine ⟨Nat.zero_le _, fun t2 h2 => ⟨(by show 3 ≤ sizeLine; decide), fun t3 h3 => ⟨(by show 2 ≤ sizeLine; decide), fun t4 h4 => ?_⟩⟩⟩
        have z2 := new1 (o := .tup []) h2
        have z3 := same2 (o := .tup [.ref ax, .ref gt, .ref t2]) z2 h3
        have z4 := same2 (o := .tup [.int 1, .ref t3]) z3 h4
        refine hk _ _ z4 ⟨_, hu, t4, .ref t3, rfl, .inl (.inl upd_same), t3, ax, gt, t2, rfl, .inl (.inl (new1 h4 _ _ upd_same)), dp_same (Same.tr s1 z4) _ _ hv, hok, dp_same z4 _ _ hdx, okg, ?_⟩
        rw [c1]
        exact ties_dp (ys := []) (.inl (.inl (new1 h4 _ _ (new1 h3 _ _ upd_same)))) .nil
    · refine ⟨_, rfl, (by show 2 ≤ sizeLine; decide), fun a ha => ⟨_, rfl, D, ys, rfl, .inr (.inl (.inl (new1 ha _ _ hD1))), (by simp only [List.append_nil, List.length_cons]; exact small (m := 2000) (by omega)), fun l hl' => ?_⟩⟩
      have z1 := same2 (o := .tup [.int 0, .ref px]) s1 ha
      have z2 := same2 (o := .lst (V.ref a :: (ys ++ []))) z1 hl'
      refine q l _ _ z2 upd_same (.cons ?_ ?_)
      · exact ⟨a, .ref px, rfl, .inl (.inl (new1 hl' _ _ upd_same)), px, ax, b, rfl, sqT z2 hpx, dp_same z2 _ _ hv, hok, dp_same z2 _ _ hb⟩
      · refine Each.cast (List.append_nil ys) ?_
        exact Each.map ⟨by omega, fun i y g hy hg' => by
          obtain ⟨g2, e2, r⟩ := hr' i y hy
          rw [hg'] at e2
          cases e2
          exact r.to (same_sq (Same.tr (new1 ha) (new1 hl')))⟩
  | two v g ts =>
    obtain ⟨px, ax, ay, b, rfl, hpx, hv, hok, hs, hsk, hb⟩ := hp
    obtain ⟨_, gu, e0, hgt, hgu⟩ := sgt_at hs
    cases e0
    obtain ⟨_, tys, e0, htb, hte⟩ := dp_ties hb
    cases e0
    have hlt' : ts.length ≤ 1000 := hlt
    have htl := hte.1
    refine ⟨_, rfl, px, _, rfl, hpx, rfl, _, _, rfl, _, _, rfl, _, _, rfl, rfl, ?_⟩
    refine ⟨_, rfl, rfl, false, rfl, ?_⟩
    refine ite_no rfl ?_
    refine ⟨_, rfl, rfl, false, rfl, ?_⟩
    refine ite_no rfl ?_
    have hz := hsk.1
    refine ⟨_, rfl, ay, _, _, _, rfl, rfl, hgt, atN (i := 1) rfl, gu, rfl, ⟨_, hgu⟩, fun D hD => ?_⟩
    refine lc_rel (walk_tupM (g.2.map toI) V.int) hD (by rw [List.length_map]; omega) (fun i y H' => ∃ k, g.2[i]? = some k ∧ StepAt K H' y (2, .two v g (ts ++ tot k))) (fun i y H1 H2 zs h1 h2 ⟨g, hg, r⟩ => ⟨g, hg, r.to (sq_but h1 h2)⟩)
      (fun H' s' => sqT s' hgu) (fun i x H1 H2 ys Kk hi s1 hD1 hY hk => ?_) fun H' ys s1 hD1 hlen hr' => ?_
    · obtain ⟨rfl, hx⟩ := hY
      obtain ⟨k', hk', rfl⟩ := map_at hx
      rw [List.getElem?_map] at hk'
      cases hgk : g.2[i]? with
      | none => rw [hgk] at hk'; cases hk'
      | some k =>
      rw [hgk] at hk'
      cases hk'
      refine ⟨rfl, _, rfl, _, rfl, _, rfl, b, tys, rfl, .inl (sqT s1 htb), _, rfl, k, rfl, fun l H3 zs s2 hl3 he3 => ?_⟩
      have hzl : zs.length ≤ 2 := by
        rw [he3.1]
        unfold tot
        split <;> split <;> decide
      refine ⟨l, zs, rfl, .inr (.inl (.inl hl3)), small (m := 2000) (by rw [List.length_append, List.append_nil]; omega), fun t2 h2 => ⟨(by show 3 ≤ sizeLine; decide), fun t3 h3 => ⟨(by show 2 ≤ sizeLine; decide), fun t4 h4 => ?_⟩⟩⟩
      have z2 := same2 (o := .tup (tys ++ (zs ++ []))) s2 h2
      have z3 := same2 (o := .tup [.ref ax, .ref ay, .ref t2]) z2 h3
      have z4 := same2 (o := .tup [.int 2, .ref t3]) z3 h4
      have z5 := Same.tr (new1 (o := .tup (tys ++ (zs ++ []))) h2) (Same.tr (new1 (o := .tup [.ref ax, .ref ay, .ref t2]) h3) (new1 (o := .tup [.int 2, .ref t3]) h4))
      refine hk _ _ z4 ⟨k, hgk, t4, .ref t3, rfl, .inl (.inl upd_same), t3, ax, ay, t2, rfl, .inl (.inl (new1 h4 _ _ upd_same)), dp_same (Same.tr s1 z4) _ _ hv, hok, dp_same (Same.tr s1 z4) _ _ hs, hsk, ?_⟩
      refine ties_dp (ys := tys ++ (zs ++ [])) (.inl (.inl (new1 h4 _ _ (new1 h3 _ _ upd_same)))) ?_
      exact .app (hte.mono fun y p d => dp_same (Same.tr s1 z4) _ _ d) (Each.cast (List.append_nil zs) (he3.mono fun y p d => dp_same z5 _ _ d))
    · rw [List.length_map] at hlen
      refine ⟨_, rfl, (by show 2 ≤ sizeLine; decide), fun a ha => ⟨_, rfl, (by show 2 ≤ sizeLine; decide), fun a2 ha2 => ⟨_, rfl, D, ys, rfl, .inr (.inl (.inl (new1 ha2 _ _ (new1 ha _ _ hD1)))), (by simp only [List.append_nil, List.length_cons]; exact small (m := 2000) (by omega)), fun l hl' => ?_⟩⟩⟩
      have z1 := same2 (o := .tup [.int 0, .ref px]) s1 ha
      have z2 := same2 (o := .tup [.int 1, .ref px]) z1 ha2
      have z3 := same2 (o := .lst (V.ref a :: V.ref a2 :: (ys ++ []))) z2 hl'
      have hpos : PosAt K (upd (upd (upd H' a (.tup [.int 0, .ref px])) a2 (.tup [.int 1, .ref px])) l (.lst (V.ref a :: V.ref a2 :: (ys ++ [])))) (.ref px) (.two v g ts) :=
        ⟨px, ax, ay, b, rfl, sqT z3 hpx, dp_same z3 _ _ hv, hok, dp_same z3 _ _ hs, hsk, dp_same z3 _ _ hb⟩
      refine q l _ _ z3 upd_same (.cons ?_ (.cons ?_ ?_))
      · exact ⟨a, .ref px, rfl, .inl (.inl (new1 hl' _ _ (new1 ha2 _ _ upd_same))), hpos⟩
      · exact ⟨a2, .ref px, rfl, .inl (.inl (new1 hl' _ _ upd_same)), hpos⟩
      · refine Each.cast (List.append_nil ys) ?_
        exact Each.map ⟨by omega, fun i y g hy hg' => by
          obtain ⟨g2, e2, r⟩ := hr' i y hy
          rw [hg'] at e2
          cases e2
          exact r.to (same_sq (Same.tr (new1 ha) (Same.tr (new1 ha2) (new1 hl'))))⟩
end
end K61

end

section
set_option linter.all false
set_option maxRecDepth 100000
set_option maxHeartbeats 4000000
/-! K61, walk 5: questions, holds_by. -/
namespace K61
open PySem PySem.Spec PyProof.Rows L2
section
variable {P : Program} {w : World} {K : PySem.W.Frag} {mg : Str → Option Value} {base : Heap} {cS cQ cT : Addr}
/-! ### questions as tuples -/
def nmS : Nm → Str
  | .x => "x"
  | .y => "y"
  | .z => "z"
def atS (t : Bool) : Str := if t = true then "tied" else "same"
def binS (o : Bool) : Str := if o = true then "or" else "and"
def lookS (s : Bool) : Str := if s = true then "some" else "all"
def QAt (K : PySem.W.Frag) (H : Hp) (v : V) : Qn → Prop
  | .atom t a b => ∃ p, v = .ref p ∧ SqT K H p [.str (atS t), .str (nmS a), .str (nmS b)]
  | .neg q => ∃ p u, v = .ref p ∧ SqT K H p [.str "not", u] ∧ QAt K H u q
  | .bin o q r => ∃ p u x, v = .ref p ∧ SqT K H p [.str (binS o), u, x] ∧ QAt K H u q ∧ QAt K H x r
  | .look s a q => ∃ p u, v = .ref p ∧ SqT K H p [.str (lookS s), .str (nmS a), u] ∧ QAt K H u q
theorem QAt.to {H H' : Hp} (s : ∀ a xs, SqT K H a xs → SqT K H' a xs) : ∀ {q : Qn} {v : V}, QAt K H v q → QAt K H' v q
  | .atom _ _ _, _, ⟨p, h1, h2⟩ => ⟨p, h1, s _ _ h2⟩
  | .neg _, _, ⟨p, u, h1, h2, h3⟩ => ⟨p, u, h1, s _ _ h2, h3.to s⟩
  | .bin _ _ _, _, ⟨p, u, x, h1, h2, h3, h4⟩ => ⟨p, u, x, h1, s _ _ h2, h3.to s, h4.to s⟩
  | .look _ _ _, _, ⟨p, u, h1, h2, h3⟩ => ⟨p, u, h1, s _ _ h2, h3.to s⟩
theorem QAt.ref {H : Hp} : ∀ {q : Qn} {v : V}, QAt K H v q → ∃ p, v = .ref p
  | .atom _ _ _, _, ⟨p, h1, _⟩ => ⟨p, h1⟩
  | .neg _, _, ⟨p, _, h1, _⟩ => ⟨p, h1⟩
  | .bin _ _ _, _, ⟨p, _, _, h1, _⟩ => ⟨p, h1⟩
  | .look _ _ _, _, ⟨p, _, h1, _⟩ => ⟨p, h1⟩
theorem nmS_inj {a b : Nm} (h : nmS a = nmS b) : a = b := by
  cases a <;> cases b <;> first | rfl | exact absurd h (by decide +kernel)
/-- the names' things, in the dict at d -/
def NmAt (H : Hp) (d : Addr) (e : Nm → Nat) (l : List Nm) (m : Nat) : Prop := ∃ kvs, H d = some (.dK kvs) ∧ kvs.length ≤ m ∧ ∀ a ∈ l, valV kvs (Sum.inr (nmS a) : Key) = some (.int (e a : Int))
theorem NmAt.to {H H' : Hp} (s : Same H H') {d : Addr} {e : Nm → Nat} {l : List Nm} {m : Nat} : NmAt H d e l m → NmAt H' d e l m
  | ⟨kvs, h1, h2⟩ => ⟨kvs, s _ _ h1, h2⟩
theorem NmAt.get {H : Hp} {d : Addr} {e : Nm → Nat} {l : List Nm} {m : Nat} {a : Nm} (h : NmAt H d e l m) (ha : a ∈ l) : DGet H d (.str (nmS a)) (some (.int (e a : Int))) := by
  obtain ⟨kvs, h1, _, h2⟩ := h
  have := DGet.k (k := (Sum.inr (nmS a) : Key)) h1
  rwa [h2 a ha] at this
theorem NmAt.put {H : Hp} {d : Addr} {e : Nm → Nat} {l : List Nm} {m : Nat} {kvs : List (Key × V)} (hl : kvs.length ≤ m) (h : ∀ a ∈ l, valV kvs (Sum.inr (nmS a) : Key) = some (.int (e a : Int))) (b : Nm) (t : Nat) (h1 : H d = some (.dK (putK kvs (Sum.inr (nmS b)) (.int (t : Int))))) :
    NmAt H d (putN e b t) (b :: l) (m + 1) := by
  refine ⟨_, h1, by have := length_putK kvs (Sum.inr (nmS b) : Key) (.int (t : Int)); omega, fun a ha => ?_⟩
  rw [valV_put]
  unfold putN
  by_cases c : a = b
  · subst c
    rw [if_pos rfl, if_pos rfl]
  · rw [if_neg c, if_neg fun z => c (nmS_inj (Sum.inr.inj z))]
    rcases List.mem_cons.mp ha with z | z
    · exact absurd z c
    · exact h a z
theorem NmAt.less {H : Hp} {d : Addr} {e : Nm → Nat} {l l' : List Nm} {m m' : Nat} (h : NmAt H d e l m) (hl : ∀ a ∈ l', a ∈ l) (hm : m ≤ m') : NmAt H d e l' m' :=
  let ⟨kvs, h1, h2, h3⟩ := h
  ⟨kvs, h1, Nat.le_trans h2 hm, fun a ha => h3 a (hl a ha)⟩
theorem Qn.deep_pos (q : Qn) : 1 ≤ q.deep := by cases q <;> simp [Qn.deep] <;> omega
/-! ### holds_by -/
theorem steps_ties {u : List Vw} {p : Pl} {st : Nat × Pl} (h : st ∈ steps u p) : st.2.ties.length ≤ p.ties.length + 2 := by
  cases p with
  | zero =>
    obtain ⟨v, _, rfl⟩ := List.mem_map.mp h
    exact Nat.zero_le _
  | one v =>
    rcases List.mem_cons.mp h with z | z
    · rw [z]; exact Nat.zero_le _
    · obtain ⟨s, _, rfl⟩ := List.mem_map.mp z
      show (tie2 s.1).length ≤ _
      unfold tie2
      split <;> simp
  | two v s ts =>
    rcases List.mem_cons.mp h with z | z
    · rw [z]; simp
    rcases List.mem_cons.mp z with z | z
    · rw [z]; simp
    · obtain ⟨k, _, rfl⟩ := List.mem_map.mp z
      show (ts ++ tot k).length ≤ ts.length + 2
      rw [List.length_append]
      unfold tot
      split <;> split <;> simp
theorem PosAt.third {H : Hp} {v : V} : ∀ {p : Pl}, PosAt K H v p → ∃ px a b z, v = .ref px ∧ SqT K H px [a, b, .ref z] ∧ Dp K H (.ref z) (tiesD p.ties)
  | .zero, ⟨p, b, h1, h2, h3⟩ => ⟨p, _, _, b, h1, h2, h3⟩
  | .one _, ⟨p, x, b, h1, h2, _, _, h5⟩ => ⟨p, _, _, b, h1, h2, h5⟩
  | .two _ _ _, ⟨p, x, y, b, h1, h2, _, _, _, _, h7⟩ => ⟨p, _, _, b, h1, h2, h7⟩
theorem pr_eqv (p r : Nat × Nat) : PyData.eqv (prD p) (prD r) = decide (p = r) := by
  obtain ⟨a, b⟩ := p
  obtain ⟨c, d⟩ := r
  have e : PyData.eqv (prD (a, b)) (prD (c, d)) = (((a : Int) == (c : Int)) && (((b : Int) == (d : Int)) && true)) := by
    simp [prD, nI, PyData.eqv, PyData.eqvAll]
  rw [e]
  by_cases h1 : a = c
  · by_cases h2 : b = d
    · subst h1 h2
      simp
    · have : ¬ ((b : Int) = (d : Int)) := by omega
      simp [h1, h2, this]
  · have : ¬ ((a : Int) = (c : Int)) := by omega
    simp [h1, this]
theorem pr_any (ts : List (Nat × Nat)) (p : Nat × Nat) : ((ts.map prD).any fun z => PyData.eqv z (prD p)) = decide (p ∈ ts) := by
  induction ts with
  | nil => simp
  | cons r ts ih =>
    rw [List.map_cons, List.any_cons, ih, pr_eqv]
    by_cases h : r = p
    · subst h; simp
    · have h' : ¬ p = r := fun z => h z.symm
      simp [h, h']
theorem pr_shaped (p : Nat × Nat) : SeqAt.shaped (prD p) = true := by
  simp [SeqAt.shaped, prD, nI, PyData.canLay0, PyData.canLayAll0, PyData.depth, PyData.depthAll]
theorem ties_shaped (ts : List (Nat × Nat)) : SeqAt.shaped (tiesD ts) = true := by
  have h1 : ∀ l : List (Nat × Nat), PyData.canLayAll0 (l.map prD) = true ∧ PyData.depthAll (l.map prD) ≤ 1 := by
    intro l
    induction l with
    | nil => simp [PyData.canLayAll0, PyData.depthAll]
    | cons p r ih =>
      obtain ⟨a, b⟩ := ih
      rw [List.map_cons, PyData.canLayAll0, PyData.depthAll, a]
      refine ⟨by simp [prD, nI, PyData.canLay0, PyData.canLayAll0], ?_⟩
      have : (prD p).depth = 1 := by simp [prD, nI, PyData.depth, PyData.depthAll]
      omega
  obtain ⟨a, b⟩ := h1 ts
  unfold SeqAt.shaped tiesD
  rw [Bool.and_eq_true]
  refine ⟨by rw [PyData.canLay0]; exact a, decide_eq_true ?_⟩
  rw [PyData.depth]
  omega
theorem look_hit {u : List Vw} {s : Bool} {a : Nm} {q : Qn} {p : Pl} {en : Nm → Nat} {st : Nat × Pl} (h : st ∈ steps u p) (e : hb u q st.2 (putN en a st.1) = s) : hb u (.look s a q) p en = s := by
  cases s with
  | true => exact List.any_eq_true.mpr ⟨st, h, e⟩
  | false =>
    show ((steps u p).all fun st => hb u q st.2 (putN en a st.1)) = false
    exact List.all_eq_false.mpr ⟨st, h, by simpa using e⟩
theorem look_end {u : List Vw} {s : Bool} {a : Nm} {q : Qn} {p : Pl} {en : Nm → Nat} (h : ∀ st ∈ steps u p, hb u q st.2 (putN en a st.1) = !s) : hb u (.look s a q) p en = !s := by
  cases s with
  | true => exact List.any_eq_false.mpr fun st hs => by simpa using h st hs
  | false => exact List.all_eq_true.mpr fun st hs => h st hs
theorem take_more {α : Type} {l : List α} {i : Nat} {x y : α} (h : l[i]? = some x) (hy : y ∈ l.take (i + 1)) : y = x ∨ y ∈ l.take i := by
  rw [List.take_add_one, h] at hy
  rcases List.mem_append.mp hy with z | z
  · exact .inr z
  · exact .inl (by simpa using z)
theorem sc_holds_by : FnScope ["root", "views", "position", "names", "word", "one", "other", "thing", "then", "told"] ["root", "views", "position", "names"] (defScope (top 59)) := ⟨rfl, rfl, rfl, by decide +kernel, rfl, by decide +kernel, by decide +kernel⟩
def spHoldsBy (K : PySem.W.Frag) (n : Nat) : Sp := fun vs H Q _ => ∃ (r v x : V) (d : Addr) (q : Qn) (u : List Vw) (p : Pl) (e : Nm → Nat) (l : List Nm) (m : Nat), vs = [r, v, x, .ref d] ∧ QAt K H r q ∧ q.deep + 2 ≤ n ∧ Dp K H v (.tuple (u.map vwD)) ∧ VwsOk u ∧ PosAt K H x p ∧
  p.ties.length + 2 * q.looks ≤ 1000 ∧ NmAt H d e l m ∧ m + q.looks ≤ 1000 ∧ (∀ a ∈ q.free, a ∈ l) ∧ ∀ H', Same H H' → Q (.bl (hb u q p e)) H'
theorem b_holds_by : BindOk "holds_by" "holds_by" (top 59) ["root", "views", "position", "names"] := fun _ _ _ _ _ _ us hl => match us, hl with | [_, _, _, _], _ => rfl
theorem s_holds_by {n : Nat} (e : Ev w K mg cS cQ cT) (c_holds_by : C8.Cal P w K mg base n "holds_by" (spHoldsBy K n) []) : C8.Cal P w K mg base (n + 1) "holds_by" (spHoldsBy K (n + 1)) [] := by
  have c_steps_of := c_steps_of (P := P) (base := base) e
  refine calD e.d_holds_by b_holds_by sc_holds_by (fun vs H Q E h => ?_) fun f cdv A outer s H vs Q E hr h => ?_
  · obtain ⟨r, v, x, d, _, _, _, _, _, _, rfl, _⟩ := h; rfl
  obtain ⟨r, v, x, d, q, u, p, en, l, m, rfl, hq, hn, hd, ok, hp, hlt, hnm, hm, hfr, hQ⟩ := h
  have h2 : 2 ≤ n := by have := q.deep_pos; omega
  refine ⟨_, (pss_cons (ps_set (i := 4) sc_holds_by.nd rfl (.inl rfl) (pe_ix ix_tup (pv 0) pe_int (fun _ _ => rfl)))
    (pss_cons (ps_if (pt_cmpR op_eq (pv 4) pe_str (nomark _)) (pss_one (ps_ret (pe_not (C8.pe_c c_holds_by hr (by first | decide | omega) rfl (pa_cons (pe_ix ix_tup (pv 0) pe_int (fun _ _ => rfl)) (pa_cons (pv 1) (pa_cons (pv 2) (pa_cons (pv 3) pa_nil)))))))) pss_nil)
    (pss_cons (ps_if (pt_cmpR op_eq (pv 4) pe_str (nomark _)) (pss_one (ps_ret (pe_and (C8.pe_c c_holds_by hr (by first | decide | omega) rfl (pa_cons (pe_ix ix_tup (pv 0) pe_int (fun _ _ => rfl)) (pa_cons (pv 1) (pa_cons (pv 2) (pa_cons (pv 3) pa_nil))))) (pe_one (C8.pe_c c_holds_by hr (by first | decide | omega) rfl (pa_cons (pe_ix ix_tup (pv 0) pe_int (fun _ _ => rfl)) (pa_cons (pv 1) (pa_cons (pv 2) (pa_cons (pv 3) pa_nil))))))))) pss_nil)
    (pss_cons (ps_if (pt_cmpR op_eq (pv 4) pe_str (nomark _)) (pss_one (ps_ret (pe_or (C8.pe_c c_holds_by hr (by first | decide | omega) rfl (pa_cons (pe_ix ix_tup (pv 0) pe_int (fun _ _ => rfl)) (pa_cons (pv 1) (pa_cons (pv 2) (pa_cons (pv 3) pa_nil))))) (pe_one (C8.pe_c c_holds_by hr (by first | decide | omega) rfl (pa_cons (pe_ix ix_tup (pv 0) pe_int (fun _ _ => rfl)) (pa_cons (pv 1) (pa_cons (pv 2) (pa_cons (pv 3) pa_nil))))))))) pss_nil)
    (pss_cons (ps_if (pt_cmpR op_eq (pv 4) pe_str (nomark _)) (pss_one (ps_ret (pe_cmpR op_eq (pe_dget (hu_of hr) (pv 3) (pe_ix ix_tup (pv 0) pe_int (fun _ _ => rfl)) (fun _ _ => rfl)) (pe_dget (hu_of hr) (pv 3) (pe_ix ix_tup (pv 0) pe_int (fun _ _ => rfl)) (fun _ _ => rfl)) (nomark _)))) pss_nil)
    (pss_cons (ps_if (pt_cmpR op_eq (pv 4) pe_str (nomark _)) (pss_cons (ps_par (i := 5) (j := 6) rfl sc_holds_by.nd rfl rfl (by decide) rfl rfl (pa_cons (pe_dget (hu_of hr) (pv 3) (pe_ix ix_tup (pv 0) pe_int (fun _ _ => rfl)) (fun _ _ => rfl)) (pa_cons (pe_dget (hu_of hr) (pv 3) (pe_ix ix_tup (pv 0) pe_int (fun _ _ => rfl)) (fun _ _ => rfl)) pa_nil)) rfl)
      (pss_one (ps_ret (pe_cmpR (op_inT (hu65 hr)) (pe_tup (pa_cons (pe_callB (call_min2 rfl) rfl e.n_min (by decide +kernel) (pa_cons (pv 5) (pa_cons (pv 6) pa_nil))) (pa_cons (pe_callB (call_max2 rfl) rfl e.n_max (by decide +kernel) (pa_cons (pv 5) (pa_cons (pv 6) pa_nil))) pa_nil))) (pe_ix ix_tup (pv 2) pe_int (fun _ _ => rfl)) rfl)))) pss_nil)
    (pss_cons (ps_for PassesOwn.never rfl (pi_list (C8.pe_c c_steps_of hr (by first | decide | omega) rfl (pa_cons (pv 1) (pa_cons (pv 2) pa_nil)))) (pg_tup rfl (pgs_cons (pg_name (i := 7) sc_holds_by.nd rfl (.inl rfl)) (pgs_cons (pg_name (i := 8) sc_holds_by.nd rfl (.inl rfl)) pgs_nil)))
    (pss_cons (ps_set (i := 9) sc_holds_by.nd rfl (.inl rfl) (C8.pe_c c_holds_by hr (by first | decide | omega) rfl (pa_cons (pe_ix ix_tup (pv 0) pe_int (fun _ _ => rfl)) (pa_cons (pv 1) (pa_cons (pv 8) (pa_cons (pe_dstar (pv 3) (pe_ix ix_tup (pv 0) pe_int (fun _ _ => rfl)) (pv 7)) pa_nil))))))
      (pss_one (ps_if (pt_cmpR op_eq (pv 9) (pe_cmpR op_eq (pv 4) pe_str (nomark _)) (nomark _)) (pss_one (ps_ret (pv 9))) pss_nil))))
    (pss_one (ps_ret (pe_cmpR op_eq (pv 4) pe_str (nomark _))))))))))), ?_⟩
  cases q with
  | atom t a b =>
    obtain ⟨pr, rfl, hpr⟩ := hq
    refine ⟨_, rfl, pr, _, _, _, rfl, rfl, hpr, atN (i := 0) rfl, ?_⟩
    cases t with
    | false =>
      refine ⟨_, rfl, rfl, _, rfl, ite_no (by decide +kernel) ?_⟩
      refine ⟨_, rfl, rfl, _, rfl, ite_no (by decide +kernel) ?_⟩
      refine ⟨_, rfl, rfl, _, rfl, ite_no (by decide +kernel) ?_⟩
      refine ⟨_, rfl, rfl, _, rfl, ite_yes (by decide +kernel) ?_⟩
      refine ⟨_, rfl, _, rfl, pr, _, _, _, rfl, rfl, hpr, atN (i := 1) rfl, d, _, rfl, hnm.get (hfr a (by simp [Qn.free])), ?_⟩
      refine ⟨_, rfl, _, rfl, pr, _, _, _, rfl, rfl, hpr, atN (i := 2) rfl, d, _, rfl, hnm.get (hfr b (by simp [Qn.free])), rfl, ?_⟩
      have z := hQ H (Same.refl _)
      have e1 : hb u (.atom false a b) p en = decide (V.int (en a : Int) = V.int (en b : Int)) := by
        show decide (en a = en b) = _
        by_cases c : en a = en b
        · rw [decide_eq_true c, c]
          exact (decide_eq_true rfl).symm
        · rw [decide_eq_false c]
          exact (decide_eq_false fun y => c (by have := V.int.inj y; omega)).symm
      rw [e1] at z
      exact z
    | true =>
      refine ⟨_, rfl, rfl, _, rfl, ite_no (by decide +kernel) ?_⟩
      refine ⟨_, rfl, rfl, _, rfl, ite_no (by decide +kernel) ?_⟩
      refine ⟨_, rfl, rfl, _, rfl, ite_no (by decide +kernel) ?_⟩
      refine ⟨_, rfl, rfl, _, rfl, ite_no (by decide +kernel) ?_⟩
      refine ⟨_, rfl, rfl, _, rfl, ite_yes (by decide +kernel) ?_⟩
      refine ⟨_, rfl, _, rfl, pr, _, _, _, rfl, rfl, hpr, atN (i := 1) rfl, d, _, rfl, hnm.get (hfr a (by simp [Qn.free])), ?_⟩
      refine ⟨_, rfl, _, rfl, pr, _, _, _, rfl, rfl, hpr, atN (i := 2) rfl, d, _, rfl, hnm.get (hfr b (by simp [Qn.free])), ?_⟩
      refine ⟨_, _, rfl, ?_⟩
      obtain ⟨px, c1, c2, z, rfl, hpx, htz⟩ := hp.third
      have hmin : (if (en b : Int) < (en a : Int) then (en b : Int) else (en a : Int)) = ((min (en a) (en b) : Nat) : Int) := by split <;> omega
      have hmax : (if (en b : Int) > (en a : Int) then (en b : Int) else (en a : Int)) = ((max (en a) (en b) : Nat) : Int) := by split <;> omega
      refine ⟨_, rfl, _, rfl, _, _, rfl, _, rfl, _, rfl, _, _, rfl, (by show 2 ≤ sizeLine; decide), fun t ht => ?_⟩
      refine ⟨_, rfl, px, _, _, _, rfl, rfl, sqT (new1 ht) hpx, atN (i := 2) rfl, prD (min (en a) (en b), max (en a) (en b)), _, ?_, dp_same (new1 ht) _ _ htz, pr_shaped _, ties_shaped _, ?_⟩
      · refine pr_new ?_
        rw [upd_same, hmin, hmax]
      · have e1 : hb u (.atom true a b) p en = ((p.ties.map prD).any fun z => PyData.eqv z (prD (min (en a) (en b), max (en a) (en b)))) := by
          rw [pr_any]
          rfl
        have z2 := fun H' s' => hQ H' s'
        rw [e1] at z2
        exact z2 _ (new1 ht)
  | neg q =>
    obtain ⟨pr, uu, rfl, hpr, hq1⟩ := hq
    refine ⟨_, rfl, pr, _, _, _, rfl, rfl, hpr, atN (i := 0) rfl, ?_⟩
    refine ⟨_, rfl, rfl, _, rfl, ite_yes (by decide +kernel) ?_⟩
    refine ⟨_, rfl, pr, _, _, _, rfl, rfl, hpr, atN (i := 1) rfl, _, rfl, _, rfl, _, rfl, uu, v, x, d, q, u, p, en, l, m, rfl, hq1, ?_, hd, ok, hp, hlt, hnm, hm, hfr, fun H' s' => ⟨_, rfl, hQ H' s'⟩⟩
    simp only [Qn.deep] at hn
    omega
  | bin o q1 q2 =>
    obtain ⟨pr, u1, u2, rfl, hpr, hq1, hq2⟩ := hq
    simp only [Qn.deep, Qn.looks] at hn hlt hm
    have f1 : ∀ a ∈ q1.free, a ∈ l := fun a ha => hfr a (List.mem_append_left _ ha)
    have f2 : ∀ a ∈ q2.free, a ∈ l := fun a ha => hfr a (List.mem_append_right _ ha)
    refine ⟨_, rfl, pr, _, _, _, rfl, rfl, hpr, atN (i := 0) rfl, ?_⟩
    refine ⟨_, rfl, rfl, _, rfl, ite_no (by cases o <;> decide +kernel) ?_⟩
    cases o with
    | false =>
      refine ⟨_, rfl, rfl, _, rfl, ite_yes (by decide +kernel) ?_⟩
      refine ⟨_, rfl, pr, _, _, _, rfl, rfl, hpr, atN (i := 1) rfl, _, rfl, _, rfl, _, rfl, u1, v, x, d, q1, u, p, en, l, m, rfl, hq1, by omega, hd, ok, hp, by omega, hnm, by omega, f1, fun H1 s1 => ⟨_, rfl, ?_⟩⟩
      have e1 : hb u (.bin false q1 q2) p en = (hb u q1 p en && hb u q2 p en) := rfl
      rw [e1] at hQ
      cases c : hb u q1 p en with
      | false =>
        rw [c] at hQ
        exact hQ H1 s1
      | true =>
        rw [c] at hQ
        exact ⟨_, rfl, pr, _, _, _, rfl, rfl, sqT s1 hpr, atN (i := 2) rfl, _, rfl, _, rfl, _, rfl, u2, v, x, d, q2, u, p, en, l, m, rfl, hq2.to (same_sq s1), by omega, dp_same s1 _ _ hd, ok, hp.to (same_sq s1), by omega, hnm.to s1, by omega, f2, fun H2 s2 => hQ H2 (Same.tr s1 s2)⟩
    | true =>
      refine ⟨_, rfl, rfl, _, rfl, ite_no (by decide +kernel) ?_⟩
      refine ⟨_, rfl, rfl, _, rfl, ite_yes (by decide +kernel) ?_⟩
      refine ⟨_, rfl, pr, _, _, _, rfl, rfl, hpr, atN (i := 1) rfl, _, rfl, _, rfl, _, rfl, u1, v, x, d, q1, u, p, en, l, m, rfl, hq1, by omega, hd, ok, hp, by omega, hnm, by omega, f1, fun H1 s1 => ⟨_, rfl, ?_⟩⟩
      have e1 : hb u (.bin true q1 q2) p en = (hb u q1 p en || hb u q2 p en) := rfl
      rw [e1] at hQ
      cases c : hb u q1 p en with
      | true =>
        rw [c] at hQ
        exact hQ H1 s1
      | false =>
        rw [c] at hQ
        exact ⟨_, rfl, pr, _, _, _, rfl, rfl, sqT s1 hpr, atN (i := 2) rfl, _, rfl, _, rfl, _, rfl, u2, v, x, d, q2, u, p, en, l, m, rfl, hq2.to (same_sq s1), by omega, dp_same s1 _ _ hd, ok, hp.to (same_sq s1), by omega, hnm.to s1, by omega, f2, fun H2 s2 => hQ H2 (Same.tr s1 s2)⟩
  | look s a q =>
    obtain ⟨pr, uu, rfl, hpr, hq1⟩ := hq
    simp only [Qn.deep, Qn.looks] at hn hlt hm
    have qd := q.deep_pos
    refine ⟨_, rfl, pr, _, _, _, rfl, rfl, hpr, atN (i := 0) rfl, ?_⟩
    refine ⟨_, rfl, rfl, _, rfl, ite_no (by cases s <;> decide +kernel) ?_⟩
    refine ⟨_, rfl, rfl, _, rfl, ite_no (by cases s <;> decide +kernel) ?_⟩
    refine ⟨_, rfl, rfl, _, rfl, ite_no (by cases s <;> decide +kernel) ?_⟩
    refine ⟨_, rfl, rfl, _, rfl, ite_no (by cases s <;> decide +kernel) ?_⟩
    refine ⟨_, rfl, rfl, _, rfl, ite_no (by cases s <;> decide +kernel) ?_⟩
    refine ⟨_, rfl, _, rfl, v, x, u, p, rfl, hd, ok, hp, by omega, fun L H1 ys s1 hL he => ⟨L, rfl, ⟨_, .inl (.inl hL)⟩, ?_⟩⟩
    have ns : decide (V.str (lookS s) = V.str "some") = s := by cases s <;> decide +kernel
    have na : decide (V.str (lookS s) = V.str "all") = !s := by cases s <;> decide +kernel
    refine for_same (walk_list (xs := ys)) (fun i σ' => (∃ t5 t6 t7 t8 t9, σ' = [some (.ref pr), some v, some x, some (.ref d), some (.str (lookS s)), t5, t6, t7, t8, t9]) ∧ ∀ st ∈ (steps u p).take i, hb u q st.2 (putN en a st.1) = !s)
      ⟨⟨none, none, none, none, none, rfl⟩, fun st h => by simp at h⟩ (fun H' s' => .inl (.inl (s' _ _ hL))) (fun i y σ' H2 H3 N hi s2 hP hY hN => ?_) fun σ' H2 s2 hP => ?_
    · obtain ⟨rfl, hy⟩ := hY
      obtain ⟨⟨t5, t6, t7, t8, t9, rfl⟩, hpre⟩ := hP
      have hi2 : i < (steps u p).length := by rw [← he.1]; exact hi
      have hst := List.getElem?_eq_getElem hi2
      obtain ⟨ya, yu, rfl, hya, hyp⟩ := he.2 i y _ hy hst
      have hmem := List.mem_of_getElem? hst
      have hti := steps_ties hmem
      have sH := Same.tr s1 s2
      refine ⟨ya, _, rfl, sqT s2 hya, rfl, _, _, rfl, _, _, rfl, rfl, ?_⟩
      obtain ⟨kvs, hk1, hk2, hk3⟩ := hnm.to sH
      refine ⟨_, rfl, pr, _, _, _, rfl, rfl, sqT sH hpr, atN (i := 2) rfl, _, rfl, _, rfl, d, kvs, Sum.inr (nmS a), .int ((steps u p)[i].1 : Int), hk1, by omega, fun H4 s4 => ⟨_, rfl, rfl, rfl⟩,
        fun H4 s4 => ⟨_, rfl, pr, _, _, _, rfl, rfl, sqT (Same.tr sH s4) hpr, atN (i := 1) rfl, _, rfl, rfl, rfl, rfl⟩, fun p4 H4 hp4 s4 hd4 => ?_⟩
      refine ⟨uu, v, yu, p4, q, u, (steps u p)[i].2, putN en a (steps u p)[i].1, a :: l, m + 1, rfl, hq1.to (same_sq (Same.tr sH s4)), by omega, dp_same (Same.tr sH s4) _ _ hd, ok, hyp.to (same_sq (Same.tr s2 s4)), by omega, NmAt.put hk2 hk3 a _ hd4, by omega, fun b hb => ?_, fun H5 s5 => ?_⟩
      · by_cases c : b = a
        · exact c ▸ List.mem_cons_self
        · exact List.mem_cons_of_mem _ (hfr b (List.mem_filter.mpr ⟨hb, decide_eq_true c⟩))
      · refine ⟨_, rfl, _, rfl, rfl, rfl, _, rfl, ?_⟩
        have s6 := Same.tr s2 (Same.tr s4 s5)
        rw [ns]
        generalize hc : hb u q (steps u p)[i].2 (putN en a (steps u p)[i].1) = c
        by_cases cs : c = s
        · refine ite_yes (decide_eq_true (congrArg V.bl cs)) ⟨_, rfl, ?_⟩
          have z := fun H' s' => hQ H' s'
          rw [look_hit hmem (hc.trans cs)] at z
          show Q (.bl c) H5
          rw [cs]
          exact z _ (Same.tr s1 s6)
        · refine ite_no (decide_eq_false fun z => cs (V.bl.inj z)) ?_
          refine hN _ _ s6 ⟨⟨t5, t6, _, _, _, rfl⟩, fun st hs => ?_⟩
          rcases take_more hst hs with z | z
          · rw [z, hc]
            cases c <;> cases s <;> first | rfl | exact absurd rfl cs
          · exact hpre st z
    · obtain ⟨⟨t5, t6, t7, t8, t9, rfl⟩, hpre⟩ := hP
      refine ⟨_, rfl, rfl, ?_⟩
      rw [na]
      have z := fun H' s' => hQ H' s'
      rw [look_end fun st hs => hpre st (by rw [he.1, List.take_length]; exact hs)] at z
      exact z _ (Same.tr s1 s2)
theorem c_holds_by (e : Ev w K mg cS cQ cT) : ∀ n, C8.Cal P w K mg base n "holds_by" (spHoldsBy K n) []
  | 0 => calNone e.d_holds_by b_holds_by fun vs H Q E ⟨_, _, _, _, _, _, _, _, _, _, _, _, h, _⟩ => by omega
  | n + 1 => s_holds_by e (c_holds_by e n)
end
end K61

end

section
set_option linter.all false
set_option maxRecDepth 100000
set_option maxHeartbeats 4000000
/-! K61, walk 6: rows of friends, is_so. -/
namespace K61
open PySem PySem.Spec PyProof.Rows L2
section
variable {P : Program} {w : World} {K : PySem.W.Frag} {mg : Str → Option Value} {base : Heap} {cS cQ cT : Addr}
def nV (n : Nat) : V := .int (n : Int)
theorem walk_rangeN {n : Nat} : Walk (Itr 0 n) n (fun _ => True) (YFn nV) := walk_range.mono (fun _ z => z) fun i H x H' _ _ h => ⟨h.1, by rw [h.2]; show V.int (0 + (i : Int)) = V.int (i : Int); rw [Int.zero_add]⟩
/-- at F: n rows; b stands in the a-th as rel says -/
def RowsAt (H : Hp) (F : Addr) (n : Nat) (rel : Nat → Nat → Prop) : Prop :=
  ∃ rs : List Addr, rs.length = n ∧ H F = some (.lst (rs.map V.ref)) ∧ ∀ (a : Nat) r, rs[a]? = some r → ∃ js : List Nat, H r = some (.lst (js.map nV)) ∧ ∀ b, b ∈ js ↔ rel a b
theorem RowsAt.to {H H' : Hp} (s : Same H H') {F : Addr} {n : Nat} {rel : Nat → Nat → Prop} : RowsAt H F n rel → RowsAt H' F n rel
  | ⟨rs, h1, h2, h3⟩ => ⟨rs, h1, s _ _ h2, fun a r hr => let ⟨js, e1, e2⟩ := h3 a r hr; ⟨js, s _ _ e1, e2⟩⟩
theorem inV_nV (b : Nat) (js : List Nat) : inV (nV b) (js.map nV) = decide (b ∈ js) := by
  unfold inV
  induction js with
  | nil => simp
  | cons j r ih =>
    rw [List.map_cons, List.any_cons, ih]
    have e : eqV (nV j) (nV b) = decide (b = j) := by
      show ((j : Int) == (b : Int)) = _
      by_cases h : b = j
      · subst h; simp
      · have : ¬ ((j : Int) = (b : Int)) := by omega
        simp [h, this]
    rw [e]
    simp
theorem flat_nV (js : List Nat) : (js.map nV).all flatV = true := by
  rw [List.all_eq_true]
  intro v hv
  obtain ⟨n, _, rfl⟩ := List.mem_map.mp hv
  rfl
theorem sem_hit {n : Nat} {adj : Nat → Nat → Bool} {s : Bool} {a : Nm} {q : Qn} {en : Nm → Nat} {t : Nat} (h : t < n) (e : sem n adj q (putN en a t) = s) : sem n adj (.look s a q) en = s := by
  cases s with
  | true => exact List.any_eq_true.mpr ⟨t, List.mem_range.mpr h, e⟩
  | false =>
    show ((List.range n).all fun t => sem n adj q (putN en a t)) = false
    exact List.all_eq_false.mpr ⟨t, List.mem_range.mpr h, by simpa using e⟩
theorem sem_end {n : Nat} {adj : Nat → Nat → Bool} {s : Bool} {a : Nm} {q : Qn} {en : Nm → Nat} (h : ∀ t, t < n → sem n adj q (putN en a t) = !s) : sem n adj (.look s a q) en = !s := by
  cases s with
  | true => exact List.any_eq_false.mpr fun t ht => by simpa using h t (List.mem_range.mp ht)
  | false => exact List.all_eq_true.mpr fun t ht => h t (List.mem_range.mp ht)
theorem sc_is_so : FnScope ["friends", "root", "put", "word", "wanted", "thing"] ["friends", "root", "put"] (defScope (top 43)) := ⟨rfl, rfl, rfl, by decide +kernel, rfl, by decide +kernel, by decide +kernel⟩
def spIsSo (K : PySem.W.Frag) (k : Nat) : Sp := fun vs H Q _ => ∃ (r : V) (F d : Addr) (q : Qn) (n : Nat) (adj : Nat → Nat → Bool) (e : Nm → Nat) (l : List Nm) (m : Nat), vs = [.ref F, r, .ref d] ∧ QAt K H r q ∧ q.deep + 1 ≤ k ∧ RowsAt H F n (fun a b => adj a b = true) ∧ n ≤ 1000 ∧
  NmAt H d e l m ∧ m + q.looks ≤ 1000 ∧ (∀ a ∈ q.free, a ∈ l) ∧ (∀ a ∈ l, e a < n) ∧ ∀ H', Same H H' → Q (.bl (sem n adj q e)) H'
theorem b_is_so : BindOk "is_so" "is_so" (top 43) ["friends", "root", "put"] := fun _ _ _ _ _ _ us hl => match us, hl with | [_, _, _], _ => rfl
theorem s_is_so {k : Nat} (e : Ev w K mg cS cQ cT) (c_is_so : C8.Cal P w K mg base k "is_so" (spIsSo K k) []) : C8.Cal P w K mg base (k + 1) "is_so" (spIsSo K (k + 1)) [] := by
  refine calD e.d_is_so b_is_so sc_is_so (fun vs H Q E h => ?_) fun f cdv A outer s H vs Q E hr h => ?_
  · obtain ⟨r, v, x, _, _, _, _, _, _, rfl, _⟩ := h; rfl
  obtain ⟨r, F, d, q, n, adj, en, l, m, rfl, hq, hn, hF, hn1, hnm, hm, hfr, hlt, hQ⟩ := h
  refine ⟨_, (pss_cons (ps_set (i := 3) sc_is_so.nd rfl (.inl rfl) (pe_ix ix_tup (pv 1) pe_int (fun _ _ => rfl)))
    (pss_cons (ps_if (pt_cmpR op_eq (pv 3) pe_str (nomark _)) (pss_one (ps_ret (pe_cmpR op_in_seq (pe_dget (hu_of hr) (pv 2) (pe_ix ix_tup (pv 1) pe_int (fun _ _ => rfl)) (fun _ _ => rfl)) (pe_ix ix_list (pv 0) (pe_dget (hu_of hr) (pv 2) (pe_ix ix_tup (pv 1) pe_int (fun _ _ => rfl)) (fun _ _ => rfl)) (fun _ _ => rfl)) rfl))) pss_nil)
    (pss_cons (ps_if (pt_cmpR op_eq (pv 3) pe_str (nomark _)) (pss_one (ps_ret (pe_cmpR op_eq (pe_dget (hu_of hr) (pv 2) (pe_ix ix_tup (pv 1) pe_int (fun _ _ => rfl)) (fun _ _ => rfl)) (pe_dget (hu_of hr) (pv 2) (pe_ix ix_tup (pv 1) pe_int (fun _ _ => rfl)) (fun _ _ => rfl)) (nomark _)))) pss_nil)
    (pss_cons (ps_if (pt_cmpR op_eq (pv 3) pe_str (nomark _)) (pss_one (ps_ret (pe_not (C8.pe_c c_is_so hr (by first | decide | omega) rfl (pa_cons (pv 0) (pa_cons (pe_ix ix_tup (pv 1) pe_int (fun _ _ => rfl)) (pa_cons (pv 2) pa_nil))))))) pss_nil)
    (pss_cons (ps_if (pt_cmpR op_eq (pv 3) pe_str (nomark _)) (pss_one (ps_ret (pe_and (C8.pe_c c_is_so hr (by first | decide | omega) rfl (pa_cons (pv 0) (pa_cons (pe_ix ix_tup (pv 1) pe_int (fun _ _ => rfl)) (pa_cons (pv 2) pa_nil)))) (pe_one (C8.pe_c c_is_so hr (by first | decide | omega) rfl (pa_cons (pv 0) (pa_cons (pe_ix ix_tup (pv 1) pe_int (fun _ _ => rfl)) (pa_cons (pv 2) pa_nil)))))))) pss_nil)
    (pss_cons (ps_if (pt_cmpR op_eq (pv 3) pe_str (nomark _)) (pss_one (ps_ret (pe_or (C8.pe_c c_is_so hr (by first | decide | omega) rfl (pa_cons (pv 0) (pa_cons (pe_ix ix_tup (pv 1) pe_int (fun _ _ => rfl)) (pa_cons (pv 2) pa_nil)))) (pe_one (C8.pe_c c_is_so hr (by first | decide | omega) rfl (pa_cons (pv 0) (pa_cons (pe_ix ix_tup (pv 1) pe_int (fun _ _ => rfl)) (pa_cons (pv 2) pa_nil)))))))) pss_nil)
    (pss_cons (ps_set (i := 4) sc_is_so.nd rfl (.inl rfl) (pe_cmpR op_eq (pv 3) pe_str (nomark _)))
    (pss_cons (ps_for PassesOwn.never rfl (pi_range1 rfl e.n_range (pa_cons (pe_callB call_len_seq rfl e.n_len (by decide +kernel) (pa_cons (pv 0) pa_nil)) pa_nil)) (pg_name (i := 5) sc_is_so.nd rfl (.inl rfl))
    (pss_one (ps_if (pt_cmpR op_eq (C8.pe_c c_is_so hr (by first | decide | omega) rfl (pa_cons (pv 0) (pa_cons (pe_ix ix_tup (pv 1) pe_int (fun _ _ => rfl)) (pa_cons (pe_dstar (pv 2) (pe_ix ix_tup (pv 1) pe_int (fun _ _ => rfl)) (pv 5)) pa_nil)))) (pv 4) (nomark _)) (pss_one (ps_ret (pv 4))) pss_nil)))
    (pss_one (ps_ret (pe_not (pv 4)))))))))))), ?_⟩
  cases q with
  | atom t a b =>
    obtain ⟨pr, rfl, hpr⟩ := hq
    have ga := hfr a (by simp [Qn.free])
    have gb := hfr b (by simp [Qn.free])
    refine ⟨_, rfl, pr, _, _, _, rfl, rfl, hpr, atN (i := 0) rfl, ?_⟩
    cases t with
    | false =>
      refine ⟨_, rfl, rfl, _, rfl, ite_no (by decide +kernel) ?_⟩
      refine ⟨_, rfl, rfl, _, rfl, ite_yes (by decide +kernel) ?_⟩
      refine ⟨_, rfl, _, rfl, pr, _, _, _, rfl, rfl, hpr, atN (i := 1) rfl, d, _, rfl, hnm.get ga, ?_⟩
      refine ⟨_, rfl, _, rfl, pr, _, _, _, rfl, rfl, hpr, atN (i := 2) rfl, d, _, rfl, hnm.get gb, rfl, ?_⟩
      have z := fun H' s' => hQ H' s'
      have e1 : sem n adj (.atom false a b) en = decide (V.int (en a : Int) = V.int (en b : Int)) := by
        show decide (en a = en b) = _
        by_cases c : en a = en b
        · rw [decide_eq_true c, c]
          exact (decide_eq_true rfl).symm
        · rw [decide_eq_false c]
          exact (decide_eq_false fun y => c (by have := V.int.inj y; omega)).symm
      rw [e1] at z
      exact z _ (Same.refl _)
    | true =>
      obtain ⟨rs, h1, h2, h3⟩ := hF
      have hlen : en a < rs.length := by rw [h1]; exact hlt a ga
      obtain ⟨js, hj, hrel⟩ := h3 (en a) _ (List.getElem?_eq_getElem hlen)
      refine ⟨_, rfl, rfl, _, rfl, ite_yes (by decide +kernel) ?_⟩
      refine ⟨_, rfl, _, rfl, pr, _, _, _, rfl, rfl, hpr, atN (i := 2) rfl, d, _, rfl, hnm.get gb, ?_⟩
      refine ⟨_, rfl, _, rfl, _, rfl, pr, _, _, _, rfl, rfl, hpr, atN (i := 1) rfl, d, _, rfl, hnm.get ga, F, _, _, _, rfl, rfl, .inl (.inl h2), atN (v := .ref rs[en a]) (by rw [List.getElem?_map, List.getElem?_eq_getElem hlen] <;> rfl), ?_⟩
      refine ⟨_, _, rfl, .inl (.inl (.inl hj)), rfl, flat_nV js, ?_⟩
      have e1 : sem n adj (.atom true a b) en = inV (nV (en b)) (js.map nV) := by
        rw [inV_nV]
        show adj (en a) (en b) = _
        cases c : adj (en a) (en b) with
        | true => exact (decide_eq_true ((hrel _).mpr c)).symm
        | false => exact (decide_eq_false fun y => absurd (c.symm.trans ((hrel _).mp y)) (by simp)).symm
      have z := fun H' s' => hQ H' s'
      rw [e1] at z
      exact z _ (Same.refl _)
  | neg q =>
    obtain ⟨pr, uu, rfl, hpr, hq1⟩ := hq
    simp only [Qn.deep] at hn
    refine ⟨_, rfl, pr, _, _, _, rfl, rfl, hpr, atN (i := 0) rfl, ?_⟩
    refine ⟨_, rfl, rfl, _, rfl, ite_no (by decide +kernel) ?_⟩
    refine ⟨_, rfl, rfl, _, rfl, ite_no (by decide +kernel) ?_⟩
    refine ⟨_, rfl, rfl, _, rfl, ite_yes (by decide +kernel) ?_⟩
    exact ⟨_, rfl, _, rfl, pr, _, _, _, rfl, rfl, hpr, atN (i := 1) rfl, _, rfl, uu, F, d, q, n, adj, en, l, m, rfl, hq1, by omega, hF, hn1, hnm, hm, hfr, hlt, fun H' s' => ⟨_, rfl, hQ H' s'⟩⟩
  | bin o q1 q2 =>
    obtain ⟨pr, u1, u2, rfl, hpr, hq1, hq2⟩ := hq
    simp only [Qn.deep, Qn.looks] at hn hm
    have f1 : ∀ a ∈ q1.free, a ∈ l := fun a ha => hfr a (List.mem_append_left _ ha)
    have f2 : ∀ a ∈ q2.free, a ∈ l := fun a ha => hfr a (List.mem_append_right _ ha)
    refine ⟨_, rfl, pr, _, _, _, rfl, rfl, hpr, atN (i := 0) rfl, ?_⟩
    refine ⟨_, rfl, rfl, _, rfl, ite_no (by cases o <;> decide +kernel) ?_⟩
    refine ⟨_, rfl, rfl, _, rfl, ite_no (by cases o <;> decide +kernel) ?_⟩
    refine ⟨_, rfl, rfl, _, rfl, ite_no (by cases o <;> decide +kernel) ?_⟩
    cases o with
    | false =>
      refine ⟨_, rfl, rfl, _, rfl, ite_yes (by decide +kernel) ?_⟩
      refine ⟨_, rfl, _, rfl, pr, _, _, _, rfl, rfl, hpr, atN (i := 1) rfl, _, rfl, u1, F, d, q1, n, adj, en, l, m, rfl, hq1, by omega, hF, hn1, hnm, by omega, f1, hlt, fun H1 s1 => ⟨_, rfl, ?_⟩⟩
      have e1 : sem n adj (.bin false q1 q2) en = (sem n adj q1 en && sem n adj q2 en) := rfl
      rw [e1] at hQ
      cases c : sem n adj q1 en with
      | false =>
        rw [c] at hQ
        exact hQ H1 s1
      | true =>
        rw [c] at hQ
        exact ⟨_, rfl, _, rfl, pr, _, _, _, rfl, rfl, sqT s1 hpr, atN (i := 2) rfl, _, rfl, u2, F, d, q2, n, adj, en, l, m, rfl, hq2.to (same_sq s1), by omega, hF.to s1, hn1, hnm.to s1, by omega, f2, hlt, fun H2 s2 => hQ H2 (Same.tr s1 s2)⟩
    | true =>
      refine ⟨_, rfl, rfl, _, rfl, ite_no (by decide +kernel) ?_⟩
      refine ⟨_, rfl, rfl, _, rfl, ite_yes (by decide +kernel) ?_⟩
      refine ⟨_, rfl, _, rfl, pr, _, _, _, rfl, rfl, hpr, atN (i := 1) rfl, _, rfl, u1, F, d, q1, n, adj, en, l, m, rfl, hq1, by omega, hF, hn1, hnm, by omega, f1, hlt, fun H1 s1 => ⟨_, rfl, ?_⟩⟩
      have e1 : sem n adj (.bin true q1 q2) en = (sem n adj q1 en || sem n adj q2 en) := rfl
      rw [e1] at hQ
      cases c : sem n adj q1 en with
      | true =>
        rw [c] at hQ
        exact hQ H1 s1
      | false =>
        rw [c] at hQ
        exact ⟨_, rfl, _, rfl, pr, _, _, _, rfl, rfl, sqT s1 hpr, atN (i := 2) rfl, _, rfl, u2, F, d, q2, n, adj, en, l, m, rfl, hq2.to (same_sq s1), by omega, hF.to s1, hn1, hnm.to s1, by omega, f2, hlt, fun H2 s2 => hQ H2 (Same.tr s1 s2)⟩
  | look s a q =>
    obtain ⟨pr, uu, rfl, hpr, hq1⟩ := hq
    simp only [Qn.deep, Qn.looks] at hn hm
    have ns : decide (V.str (lookS s) = V.str "some") = s := by cases s <;> decide +kernel
    refine ⟨_, rfl, pr, _, _, _, rfl, rfl, hpr, atN (i := 0) rfl, ?_⟩
    refine ⟨_, rfl, rfl, _, rfl, ite_no (by cases s <;> decide +kernel) ?_⟩
    refine ⟨_, rfl, rfl, _, rfl, ite_no (by cases s <;> decide +kernel) ?_⟩
    refine ⟨_, rfl, rfl, _, rfl, ite_no (by cases s <;> decide +kernel) ?_⟩
    refine ⟨_, rfl, rfl, _, rfl, ite_no (by cases s <;> decide +kernel) ?_⟩
    refine ⟨_, rfl, rfl, _, rfl, ite_no (by cases s <;> decide +kernel) ?_⟩
    refine ⟨_, rfl, rfl, ?_⟩
    rw [ns]
    obtain ⟨rs, h1, h2, h3⟩ := id hF
    have hl : (rs.map V.ref).length = n := by rw [List.length_map, h1]
    refine ⟨_, rfl, F, _, rfl, .inl (.inl (.inl h2)), _, rfl, by rw [hl]; omega, by rw [hl]; omega, ?_⟩
    have hlen : ((rs.map V.ref).length : Int).toNat = n := by rw [hl]; omega
    rw [hlen]
    refine for_same (walk_rangeN (n := n)) (fun i σ' => (∃ t5, σ' = [some (.ref F), some (.ref pr), some (.ref d), some (.str (lookS s)), some (.bl s), t5]) ∧ ∀ t, t < i → sem n adj q (putN en a t) = !s)
      ⟨⟨none, rfl⟩, fun t h => absurd h (Nat.not_lt_zero _)⟩ (fun H' s' => trivial) (fun i y σ' H2 H3 N hi s2 hP hY hN => ?_) fun σ' H2 s2 hP => ?_
    · obtain ⟨rfl, rfl⟩ := hY
      obtain ⟨⟨t5, rfl⟩, hpre⟩ := hP
      obtain ⟨kvs, hk1, hk2, hk3⟩ := hnm.to s2
      refine ⟨_, rfl, _, rfl, pr, _, _, _, rfl, rfl, sqT s2 hpr, atN (i := 2) rfl, d, kvs, Sum.inr (nmS a), .int (i : Int), hk1, by omega, fun H4 s4 => ⟨_, rfl, rfl, rfl⟩,
        fun H4 s4 => ⟨_, rfl, pr, _, _, _, rfl, rfl, sqT (Same.tr s2 s4) hpr, atN (i := 1) rfl, _, rfl, rfl, rfl, rfl⟩, fun p4 H4 hp4 s4 hd4 => ?_⟩
      refine ⟨uu, F, p4, q, n, adj, putN en a i, a :: l, m + 1, rfl, hq1.to (same_sq (Same.tr s2 s4)), by omega, hF.to (Same.tr s2 s4), hn1, NmAt.put hk2 hk3 a _ hd4, by omega, fun b hb => ?_, fun b hb => ?_, fun H5 s5 => ?_⟩
      · by_cases c : b = a
        · exact c ▸ List.mem_cons_self
        · exact List.mem_cons_of_mem _ (hfr b (List.mem_filter.mpr ⟨hb, decide_eq_true c⟩))
      · unfold putN
        split
        · exact hi
        · rename_i c
          rcases List.mem_cons.mp hb with z | z
          · exact absurd z c
          · exact hlt b z
      · refine ⟨_, rfl, rfl, _, rfl, ?_⟩
        have s6 := Same.tr s2 (Same.tr s4 s5)
        generalize hc : sem n adj q (putN en a i) = c
        by_cases cs : c = s
        · refine ite_yes (decide_eq_true (congrArg V.bl cs)) ⟨_, rfl, ?_⟩
          have z := fun H' s' => hQ H' s'
          rw [sem_hit hi (hc.trans cs)] at z
          exact z _ s6
        · refine ite_no (decide_eq_false fun z => cs (V.bl.inj z)) ?_
          refine hN _ _ s6 ⟨⟨_, rfl⟩, fun t ht => ?_⟩
          by_cases z : t = i
          · rw [z, hc]
            cases c <;> cases s <;> first | rfl | exact absurd rfl cs
          · exact hpre t (by omega)
    · obtain ⟨⟨t5, rfl⟩, hpre⟩ := hP
      refine ⟨_, rfl, s, rfl, ?_⟩
      have z := fun H' s' => hQ H' s'
      rw [sem_end hpre] at z
      exact z _ s2
theorem c_is_so (e : Ev w K mg cS cQ cT) : ∀ n, C8.Cal P w K mg base n "is_so" (spIsSo K n) []
  | 0 => calNone e.d_is_so b_is_so fun vs H Q E ⟨_, _, _, _, _, _, _, _, _, _, _, h, _⟩ => by omega
  | n + 1 => s_is_so e (c_is_so e n)
end
end K61

end

section
set_option linter.all false
set_option maxRecDepth 100000
set_option maxHeartbeats 4000000
/-! K61, walk 7: the rows are made. -/
namespace K61
open PySem PySem.Spec PyProof.Rows L2
section
variable {P : Program} {w : World} {K : PySem.W.Frag} {mg : Str → Option Value} {base : Heap} {cS cQ cT : Addr}
/-- rows in the making: what is here is new since H0 -/
def RowsP (H0 H : Hp) (F : Addr) (n m : Nat) (rel : Nat → Nat → Prop) : Prop :=
  Same H0 H ∧ H0 F = none ∧ ∃ rs : List Addr, rs.length = n ∧ rs.Nodup ∧ F ∉ rs ∧ (∀ r ∈ rs, H0 r = none) ∧ H F = some (.lst (rs.map V.ref)) ∧ ∀ (a : Nat) r, rs[a]? = some r → ∃ js : List Nat, H r = some (.lst (js.map nV)) ∧ js.length ≤ m ∧ ∀ b, b ∈ js ↔ rel a b
theorem RowsP.at {H0 H : Hp} {F : Addr} {n m : Nat} {rel : Nat → Nat → Prop} (h : RowsP H0 H F n m rel) : RowsAt H F n rel :=
  let ⟨_, _, rs, h1, _, _, _, h2, h3⟩ := h
  ⟨rs, h1, h2, fun a r hr => let ⟨js, e1, _, e2⟩ := h3 a r hr; ⟨js, e1, e2⟩⟩
theorem nodup_inj {α : Type} {l : List α} (h : l.Nodup) {i j : Nat} (hi : i < l.length) (hj : j < l.length) (e : l[i] = l[j]) : i = j := by
  rcases Nat.lt_trichotomy i j with c | c | c
  · exact absurd e (List.pairwise_iff_getElem.mp h i j hi hj c)
  · exact c
  · exact absurd e.symm (List.pairwise_iff_getElem.mp h j i hj hi c)
/-- the list of the a-th, and what it is with one more -/
theorem RowsP.more {H0 H : Hp} {F : Addr} {n m : Nat} {rel : Nat → Nat → Prop} (h : RowsP H0 H F n m rel) {a : Nat} (ha : a < n) :
    ∃ (rs : List Addr) (r : Addr) (js : List Nat), H F = some (.lst (rs.map V.ref)) ∧ (rs.map V.ref)[a]? = some (.ref r) ∧ H r = some (.lst (js.map nV)) ∧ js.length ≤ m ∧ ∀ b, RowsP H0 (upd H r (.lst (js.map nV ++ [nV b]))) F n (m + 1) (fun x y => rel x y ∨ (x = a ∧ y = b)) := by
  obtain ⟨s, hF0, rs, h1, hnd, hFn, hnew, hF, hr⟩ := h
  have hal : a < rs.length := by omega
  have hra := List.getElem?_eq_getElem hal
  obtain ⟨js, e1, e2, e3⟩ := hr a _ hra
  refine ⟨rs, rs[a], js, hF, by rw [List.getElem?_map, hra] <;> rfl, e1, e2, fun b => ?_⟩
  have hmem : rs[a] ∈ rs := List.getElem_mem hal
  have hFne : F ≠ rs[a] := fun z => hFn (z ▸ hmem)
  refine ⟨same3 (hnew _ hmem) s, hF0, rs, h1, hnd, hFn, hnew, by rw [upd_ne hFne]; exact hF, fun x r hx => ?_⟩
  by_cases c : x = a
  · subst c
    rw [hra] at hx
    cases hx
    refine ⟨js ++ [b], by rw [upd_same, List.map_append] <;> rfl, by rw [List.length_append]; exact Nat.succ_le_succ e2, fun y => ?_⟩
    rw [List.mem_append, e3]
    simp
  · have hrn : r ≠ rs[a] := fun z => by
      obtain ⟨hxl, hx2⟩ := List.getElem?_eq_some_iff.mp hx
      exact c (nodup_inj hnd hxl hal (hx2.trans z))
    obtain ⟨js', f1, f2, f3⟩ := hr x r hx
    refine ⟨js', by rw [upd_ne hrn]; exact f1, Nat.le_succ_of_le f2, fun y => ?_⟩
    rw [f3]
    simp [c]
theorem RowsP.say {H0 H : Hp} {F : Addr} {n m m' : Nat} {rel rel' : Nat → Nat → Prop} (h : RowsP H0 H F n m rel) (hm : m ≤ m') (hr : ∀ a b, a < n → (rel a b ↔ rel' a b)) : RowsP H0 H F n m' rel' :=
  let ⟨s, h0, rs, h1, h2, h3, h4, h5, h6⟩ := h
  ⟨s, h0, rs, h1, h2, h3, h4, h5, fun a r hx => let ⟨js, e1, e2, e3⟩ := h6 a r hx; ⟨js, e1, Nat.le_trans e2 hm, fun b => (e3 b).trans (hr a b (by rw [← h1]; exact (List.getElem?_eq_some_iff.mp hx).1))⟩⟩
/-- [[] for _ in range(n)] -/
theorem lc_rows {n : Nat} {g : TG} {te : TE} {vs : List Nat} {σ : L2.St} {H1 : Hp} {D : Addr} {Qd : Hp → Prop} (hD : H1 D = none) (hn : n ≤ 9000)
    (hs : ∀ i x H (Kk : VK), x = nV i → (∀ l, H l = none → Kk (.ref l) (upd H l (.lst []))) → g x (wipe σ vs) H fun σ2 H2 => wipe σ2 vs = wipe σ vs ∧ te σ2 H2 Kk)
    (hd : ∀ H, RowsP H1 H D n 0 (fun _ _ => False) → Qd H) : LcAsk (Itr 0 n) g tYes te vs σ H1 D Qd := by
  refine lc_it (tt := tYes) (walk_rangeN (n := n)) (fun i H => RowsP H1 H D i 0 (fun _ _ => False)) ⟨same_new hD, hD, [], rfl, List.nodup_nil, by simp, by simp, upd_same, fun a r h => by simp at h⟩ (fun _ _ _ _ => trivial) (fun i x H H' hi p y => ?_) fun H p => hd H p
  obtain ⟨rfl, hx⟩ := y
  refine hs i x H' _ hx fun l hl => ?_
  obtain ⟨s, h0, rs, h1, h2, h3, h4, h5, h6⟩ := p
  have hlD : D ≠ l := ne_of_none h5 hl
  have hl1 : H1 l = none := s.free hl
  have hlr : l ∉ rs := fun z => by
    obtain ⟨a, ha, e⟩ := List.mem_iff_getElem.mp z
    obtain ⟨js, e1, _⟩ := h6 a l (by rw [← e]; exact List.getElem?_eq_getElem ha)
    rw [hl] at e1
    cases e1
  refine ⟨rs.map V.ref, by rw [upd_ne hlD]; exact h5, by rw [List.length_map]; exact smallLt (m := 9000) (by omega), same3 hD (same2 s hl), hD, rs ++ [l], by rw [List.length_append, h1] <;> rfl, ?_, ?_, ?_, by rw [upd_same, List.map_append] <;> rfl, fun a r hr => ?_⟩
  · rw [List.nodup_append]
    exact ⟨h2, by simp, fun a ha b hb e => hlr (by rw [List.mem_singleton.mp hb] at e; exact e ▸ ha)⟩
  · intro z
    rcases List.mem_append.mp z with z | z
    · exact h3 z
    · exact hlD (List.mem_singleton.mp z)
  · intro r hr
    rcases List.mem_append.mp hr with z | z
    · exact h4 r z
    · rw [List.mem_singleton.mp z]; exact hl1
  · by_cases c : a < rs.length
    · rw [List.getElem?_append_left c] at hr
      obtain ⟨js, e1, e2, e3⟩ := h6 a r hr
      have hrm : r ∈ rs := List.mem_of_getElem? hr
      have rD : r ≠ D := fun z => h3 (z ▸ hrm)
      have rl : r ≠ l := fun z => hlr (z ▸ hrm)
      exact ⟨js, by rw [upd_ne rD, upd_ne rl]; exact e1, e2, e3⟩
    · rw [List.getElem?_append_right (by omega)] at hr
      have e : r = l := by
        have hm := List.mem_of_getElem? hr
        exact List.mem_singleton.mp hm
      subst e
      exact ⟨[], by rw [upd_ne (Ne.symm hlD), upd_same] <;> rfl, Nat.zero_le _, fun b => by simp⟩
/-- tied, by the pairs -/
def adjP (ts : List (Nat × Nat)) (a b : Nat) : Bool := decide ((a, b) ∈ ts) || decide ((b, a) ∈ ts)
theorem adjP_sym (ts : List (Nat × Nat)) (a b : Nat) : adjP ts a b = adjP ts b a := Bool.or_comm _ _
theorem adjP_more {ts : List (Nat × Nat)} {i : Nat} {p : Nat × Nat} (h : ts[i]? = some p) (a b : Nat) : ((adjP (ts.take i) a b = true ∨ (a = p.1 ∧ b = p.2)) ∨ (a = p.2 ∧ b = p.1)) ↔ adjP (ts.take (i + 1)) a b = true := by
  unfold adjP
  rw [List.take_add_one, h]
  obtain ⟨x, y⟩ := p
  simp only [Bool.or_eq_true, decide_eq_true_eq, List.mem_append, Option.toList_some, List.mem_singleton, Prod.mk.injEq]
  constructor
  · rintro (((h | h) | h) | ⟨h1, h2⟩)
    · exact .inl (.inl h)
    · exact .inr (.inl h)
    · exact .inl (.inr h)
    · exact .inr (.inr ⟨h2, h1⟩)
  · rintro ((h | h) | h | ⟨h1, h2⟩)
    · exact .inl (.inl (.inl h))
    · exact .inl (.inr h)
    · exact .inl (.inl (.inr h))
    · exact .inr ⟨h2, h1⟩
theorem pr_at {H : Hp} {v : V} {p : Nat × Nat} (h : Dp K H v (prD p)) : ∃ a, v = .ref a ∧ SqT K H a [nV p.1, nV p.2] := by
  unfold prD at h
  cases h with
  | tup h1 h2 =>
    cases h2 with
    | cons c1 c2 =>
      cases c2 with
      | cons c3 c4 =>
        cases c4
        have c1' : Dp K H _ (.int (p.1 : Int)) := c1
        have c3' : Dp K H _ (.int (p.2 : Int)) := c3
        cases c1'
        cases c3'
        exact ⟨_, rfl, h1⟩
theorem sc_friends_in : FnScope ["things", "ties", "found", "one", "other", "_"] ["things", "ties"] (defScope (top 42)) := ⟨rfl, rfl, rfl, by decide +kernel, rfl, by decide +kernel, by decide +kernel⟩
def spFriends (K : PySem.W.Frag) : Sp := fun vs H Q _ => ∃ (n : Nat) (t : Addr) (tys : List V) (ts : List (Nat × Nat)), vs = [nV n, .ref t] ∧ n ≤ 1000 ∧ SqT K H t tys ∧ Each (fun y p => Dp K H y (prD p)) tys ts ∧ ts.length ≤ 1000 ∧ (∀ p ∈ ts, p.1 < n ∧ p.2 < n) ∧
  ∀ F H', Same H H' → RowsAt H' F n (fun a b => adjP ts a b = true) → Q (.ref F) H'
theorem c_friends_in (e : Ev w K mg cS cQ cT) : C8.Cal P w K mg base 1 "friends_in" (spFriends K) [] := by
  refine calD e.d_friends_in (fun _ _ _ _ _ _ us hl => match us, hl with | [_, _], _ => rfl) sc_friends_in (fun vs H Q E h => ?_) fun f cdv A outer s H vs Q E hr h => ?_
  · obtain ⟨n, t, _, _, rfl, _⟩ := h; rfl
  obtain ⟨n, t, tys, ts, rfl, hn, ht, he, hz, hb, q⟩ := h
  refine ⟨_, (pss_cons (ps_setLc (i := 2) (own := [("_", 5)]) (tt := tYes) rfl sc_friends_in.nd rfl rfl (sw_true rfl rfl rfl (by decide +kernel)) (pi_range1 rfl e.n_range (pa_cons (pv 0) pa_nil)) (blkOk_by (N := ["things", "ties", "found", "one", "other", "_"]) (sc := defScope (top 42)) (by decide +kernel)) (fun _ _ _ _ _ => (pg_name (i := 5) sc_friends_in.nd rfl (.inl rfl))) (fun _ _ _ _ _ => pts_nil) (fun _ _ _ _ _ => (pe_lst pa_nil)))
    (pss_cons (ps_for PassesOwn.never rfl (pi_tup (pv 1)) (pg_tup rfl (pgs_cons (pg_name (i := 3) sc_friends_in.nd rfl (.inl rfl)) (pgs_cons (pg_name (i := 4) sc_friends_in.nd rfl (.inl rfl)) pgs_nil)))
    (pss_cons (ps_expr (pe_bm PySem.F.plainAttrs_list PySem.F.slot_list_append PySem.F.type_list_append mt_append (pe_ix ix_list (pv 2) (pv 3) (fun _ _ => rfl)) (pa_cons (pv 4) pa_nil)))
      (pss_one (ps_expr (pe_bm PySem.F.plainAttrs_list PySem.F.slot_list_append PySem.F.type_list_append mt_append (pe_ix ix_list (pv 2) (pv 4) (fun _ _ => rfl)) (pa_cons (pv 3) pa_nil))))))
    (pss_one (ps_ret (pv 2))))), ?_⟩
  refine ⟨_, rfl, (n : Int), rfl, by omega, by omega, fun D hD => ?_⟩
  have hnn : (n : Int).toNat = n := Int.toNat_natCast n
  rw [hnn]
  refine lc_rows hD (by omega) (fun i x H1 Kk hx hk => ⟨rfl, Nat.zero_le _, fun l hl => hk l hl⟩) fun H1 hR => ?_
  have s1 := hR.1
  refine ⟨_, rfl, t, rfl, ⟨_, sqT s1 ht⟩, ?_⟩
  refine for_it (walk_tup (xs := tys)) (fun i σ' H' => (∃ t3 t4 t5, σ' = [some (nV n), some (.ref t), some (.ref D), t3, t4, t5]) ∧ RowsP H H' D n (2 * i) (fun a b => adjP (ts.take i) a b = true)) ⟨⟨none, none, none, rfl⟩, hR.say (Nat.zero_le _) fun a b _ => by simp [adjP]⟩
    (fun i σ' H' _ p => sqT p.2.1 ht) (fun i x σ' H1 H2 hi p hY => ?_) fun σ' H' p => ?_
  · obtain ⟨rfl, hx⟩ := hY
    obtain ⟨⟨t3, t4, t5, rfl⟩, hP⟩ := p
    have hi2 : i < ts.length := by rw [← he.1]; exact hi
    have hp := List.getElem?_eq_getElem hi2
    obtain ⟨a, rfl, ha⟩ := pr_at (dp_same hP.1 _ _ (he.2 i x _ hx hp))
    have hbp := hb _ (List.mem_of_getElem? hp)
    refine ⟨a, _, rfl, ha, rfl, _, _, rfl, _, _, rfl, rfl, ?_⟩
    obtain ⟨rs, r, js, hF, hat, hr1, hjl, hm1⟩ := hP.more hbp.1
    refine ⟨_, rfl, _, rfl, D, _, _, _, rfl, rfl, .inl (.inl hF), atN hat, .inl ⟨rfl, _, .inl (.inl hr1)⟩, _, rfl, r, _, _, rfl, rfl, hr1, smallLt (m := 5000) (by rw [List.length_map]; omega), ?_⟩
    obtain ⟨rs2, r2, js2, hF2, hat2, hr2, hjl2, hm2⟩ := (hm1 ts[i].2).more hbp.2
    refine ⟨_, rfl, _, rfl, D, _, _, _, rfl, rfl, .inl (.inl hF2), atN hat2, .inl ⟨rfl, _, .inl (.inl hr2)⟩, _, rfl, r2, _, _, rfl, rfl, hr2, smallLt (m := 5000) (by rw [List.length_map]; omega), ?_⟩
    exact ⟨⟨_, _, _, rfl⟩, (hm2 ts[i].1).say (by omega) fun x y _ => adjP_more hp x y⟩
  · obtain ⟨⟨t3, t4, t5, rfl⟩, hP⟩ := p
    refine ⟨_, rfl, q D H' hP.1 ?_⟩
    rw [he.1, List.take_length] at hP
    exact hP.at
theorem sc__law_rows : FnScope ["_law_things", "_law_ties", "_law_rows_here", "_law_one", "_law_other", "_law_thing"] ["_law_things", "_law_ties"] (defScope (top 72)) := ⟨rfl, rfl, rfl, by decide +kernel, rfl, by decide +kernel, by decide +kernel⟩
def spRows (K : PySem.W.Frag) : Sp := fun vs H Q _ => ∃ (n : Nat) (t : Addr) (tys : List V) (ts : List (Nat × Nat)), vs = [nV n, .ref t] ∧ n ≤ 1000 ∧ H t = some (.lst tys) ∧ Each (fun y p => Dp K H y (prD p)) tys ts ∧ ts.length ≤ 1000 ∧ (∀ p ∈ ts, p.1 < n ∧ p.2 < n) ∧
  ∀ F H', Same H H' → RowsAt H' F n (fun a b => adjP ts a b = true) → Q (.ref F) H'
theorem c__law_rows (e : Ev w K mg cS cQ cT) : C8.Cal P w K mg base 1 "_law_rows" (spRows K) [] := by
  refine calD e.d_law_rows (fun _ _ _ _ _ _ us hl => match us, hl with | [_, _], _ => rfl) sc__law_rows (fun vs H Q E h => ?_) fun f cdv A outer s H vs Q E hr h => ?_
  · obtain ⟨n, t, _, _, rfl, _⟩ := h; rfl
  obtain ⟨n, t, tys, ts, rfl, hn, ht, he, hz, hb, q⟩ := h
  refine ⟨_, (pss_cons (ps_setLc (i := 2) (own := [("_law_thing", 5)]) (tt := tYes) rfl sc__law_rows.nd rfl rfl (sw_true rfl rfl rfl (by decide +kernel)) (pi_range1 rfl e.n_range (pa_cons (pv 0) pa_nil)) (blkOk_by (N := ["_law_things", "_law_ties", "_law_rows_here", "_law_one", "_law_other", "_law_thing"]) (sc := defScope (top 72)) (by decide +kernel)) (fun _ _ _ _ _ => (pg_name (i := 5) sc__law_rows.nd rfl (.inl rfl))) (fun _ _ _ _ _ => pts_nil) (fun _ _ _ _ _ => (pe_lst pa_nil)))
    (pss_cons (ps_for PassesOwn.never rfl (pi_list (pv 1)) (pg_tup rfl (pgs_cons (pg_name (i := 3) sc__law_rows.nd rfl (.inl rfl)) (pgs_cons (pg_name (i := 4) sc__law_rows.nd rfl (.inl rfl)) pgs_nil)))
    (pss_cons (ps_expr (pe_bm PySem.F.plainAttrs_list PySem.F.slot_list_append PySem.F.type_list_append mt_append (pe_ix ix_list (pv 2) (pv 3) (fun _ _ => rfl)) (pa_cons (pv 4) pa_nil)))
      (pss_one (ps_expr (pe_bm PySem.F.plainAttrs_list PySem.F.slot_list_append PySem.F.type_list_append mt_append (pe_ix ix_list (pv 2) (pv 4) (fun _ _ => rfl)) (pa_cons (pv 3) pa_nil))))))
    (pss_one (ps_ret (pv 2))))), ?_⟩
  refine ⟨_, rfl, (n : Int), rfl, by omega, by omega, fun D hD => ?_⟩
  have hnn : (n : Int).toNat = n := Int.toNat_natCast n
  rw [hnn]
  refine lc_rows hD (by omega) (fun i x H1 Kk hx hk => ⟨rfl, Nat.zero_le _, fun l hl => hk l hl⟩) fun H1 hR => ?_
  have s1 := hR.1
  refine ⟨_, rfl, t, rfl, ⟨_, .inl (.inl (s1 _ _ ht))⟩, ?_⟩
  refine for_it (walk_list (xs := tys)) (fun i σ' H' => (∃ t3 t4 t5, σ' = [some (nV n), some (.ref t), some (.ref D), t3, t4, t5]) ∧ RowsP H H' D n (2 * i) (fun a b => adjP (ts.take i) a b = true)) ⟨⟨none, none, none, rfl⟩, hR.say (Nat.zero_le _) fun a b _ => by simp [adjP]⟩
    (fun i σ' H' _ p => .inl (.inl (p.2.1 _ _ ht))) (fun i x σ' H1 H2 hi p hY => ?_) fun σ' H' p => ?_
  · obtain ⟨rfl, hx⟩ := hY
    obtain ⟨⟨t3, t4, t5, rfl⟩, hP⟩ := p
    have hi2 : i < ts.length := by rw [← he.1]; exact hi
    have hp := List.getElem?_eq_getElem hi2
    obtain ⟨a, rfl, ha⟩ := pr_at (dp_same hP.1 _ _ (he.2 i x _ hx hp))
    have hbp := hb _ (List.mem_of_getElem? hp)
    refine ⟨a, _, rfl, ha, rfl, _, _, rfl, _, _, rfl, rfl, ?_⟩
    obtain ⟨rs, r, js, hF, hat, hr1, hjl, hm1⟩ := hP.more hbp.1
    refine ⟨_, rfl, _, rfl, D, _, _, _, rfl, rfl, .inl (.inl hF), atN hat, .inl ⟨rfl, _, .inl (.inl hr1)⟩, _, rfl, r, _, _, rfl, rfl, hr1, smallLt (m := 5000) (by rw [List.length_map]; omega), ?_⟩
    obtain ⟨rs2, r2, js2, hF2, hat2, hr2, hjl2, hm2⟩ := (hm1 ts[i].2).more hbp.2
    refine ⟨_, rfl, _, rfl, D, _, _, _, rfl, rfl, .inl (.inl hF2), atN hat2, .inl ⟨rfl, _, .inl (.inl hr2)⟩, _, rfl, r2, _, _, rfl, rfl, hr2, smallLt (m := 5000) (by rw [List.length_map]; omega), ?_⟩
    exact ⟨⟨_, _, _, rfl⟩, (hm2 ts[i].1).say (by omega) fun x y _ => adjP_more hp x y⟩
  · obtain ⟨⟨t3, t4, t5, rfl⟩, hP⟩ := p
    refine ⟨_, rfl, q D H' hP.1 ?_⟩
    rw [he.1, List.take_length] at hP
    exact hP.at
end
end K61

end

section
set_option linter.all false
set_option maxRecDepth 100000
set_option maxHeartbeats 4000000
/-! K61, walk 8: items_of, free_of, looks_of. -/
namespace K61
open PySem PySem.Spec PyProof.Rows L2
section
variable {P : Program} {w : World} {K : PySem.W.Frag} {mg : Str → Option Value} {base : Heap} {cS cQ cT : Addr}
def Qn.words : Qn → List Str
  | .atom t a b => [atS t, nmS a, nmS b]
  | .neg q => "not" :: q.words
  | .bin o q r => binS o :: (q.words ++ r.words)
  | .look s a q => lookS s :: nmS a :: q.words
theorem Qn.words_len : ∀ q : Qn, q.words.length = q.size
  | .atom _ _ _ => rfl
  | .neg q => by simp only [Qn.words, Qn.size, List.length_cons, q.words_len]; omega
  | .bin _ q r => by simp only [Qn.words, Qn.size, List.length_cons, List.length_append, q.words_len, r.words_len]; omega
  | .look _ _ q => by simp only [Qn.words, Qn.size, List.length_cons, q.words_len]; omega
/-- an item of a question's tuple: a word, or a question of at most this depth -/
def PartAt (K : PySem.W.Frag) (H : Hp) (k : Nat) (v : V) (ws : List Str) : Prop := (∃ z, v = .str z ∧ ws = [z]) ∨ ∃ q, QAt K H v q ∧ q.deep ≤ k ∧ ws = q.words
theorem PartAt.to {H H' : Hp} (s : ∀ a xs, SqT K H a xs → SqT K H' a xs) {k : Nat} {v : V} {ws : List Str} : PartAt K H k v ws → PartAt K H' k v ws
  | .inl h => .inl h
  | .inr ⟨q, h1, h2, h3⟩ => .inr ⟨q, h1.to s, h2, h3⟩
theorem QAt.parts {H : Hp} : ∀ {q : Qn} {v : V}, QAt K H v q → ∃ p xs ps, v = .ref p ∧ SqT K H p xs ∧ Each (PartAt K H (q.deep - 1)) xs ps ∧ ps.flatten = q.words ∧ xs.length ≤ 3
  | .atom _ _ _, _, ⟨p, h1, h2⟩ => ⟨p, _, _, h1, h2, .cons (.inl ⟨_, rfl, rfl⟩) (.cons (.inl ⟨_, rfl, rfl⟩) (.cons (.inl ⟨_, rfl, rfl⟩) .nil)), rfl, Nat.le_refl 3⟩
  | .neg q, _, ⟨p, u, h1, h2, h3⟩ => ⟨p, _, [["not"], q.words], h1, h2, .cons (.inl ⟨_, rfl, rfl⟩) (.cons (.inr ⟨q, h3, by simp [Qn.deep], rfl⟩) .nil), by simp [Qn.words], by simp⟩
  | .bin o q r, _, ⟨p, u, x, h1, h2, h3, h4⟩ => ⟨p, _, [[binS o], q.words, r.words], h1, h2, .cons (.inl ⟨_, rfl, rfl⟩) (.cons (.inr ⟨q, h3, by simp [Qn.deep]; omega, rfl⟩) (.cons (.inr ⟨r, h4, by simp [Qn.deep]; omega, rfl⟩) .nil)), by simp [Qn.words], by simp⟩
  | .look s a q, _, ⟨p, u, h1, h2, h3⟩ => ⟨p, _, [[lookS s], [nmS a], q.words], h1, h2, .cons (.inl ⟨_, rfl, rfl⟩) (.cons (.inl ⟨_, rfl, rfl⟩) (.cons (.inr ⟨q, h3, by simp [Qn.deep], rfl⟩) .nil)), by simp [Qn.words], by simp⟩
theorem flat_take {α : Type} {l : List (List α)} {i : Nat} {x : List α} (h : l[i]? = some x) : (l.take (i + 1)).flatten = (l.take i).flatten ++ x := by
  rw [List.take_add_one, h, List.flatten_append]
  simp
theorem flat_le {α : Type} (l : List (List α)) (i : Nat) : (l.take i).flatten.length ≤ l.flatten.length := by
  have h : l.flatten = (l.take i).flatten ++ (l.drop i).flatten := by rw [← List.flatten_append, List.take_append_drop]
  rw [h, List.length_append]
  omega
theorem sc_items_of : FnScope ["root", "found", "part"] ["root"] (defScope (top 32)) := ⟨rfl, rfl, rfl, by decide +kernel, rfl, by decide +kernel, by decide +kernel⟩
def spItems (K : PySem.W.Frag) (k : Nat) : Sp := fun vs H Q _ => ∃ (r : V) (q : Qn), vs = [r] ∧ QAt K H r q ∧ q.deep + 1 ≤ k ∧ q.size ≤ 1000 ∧ ∀ l H', Same H H' → H' l = some (.lst (q.words.map V.str)) → Q (.ref l) H'
theorem b_items_of : BindOk "items_of" "items_of" (top 32) ["root"] := fun _ _ _ _ _ _ us hl => match us, hl with | [_], _ => rfl
theorem s_items_of {k : Nat} (e : Ev w K mg cS cQ cT) (c_items_of : C8.Cal P w K mg base k "items_of" (spItems K k) []) : C8.Cal P w K mg base (k + 1) "items_of" (spItems K (k + 1)) [] := by
  refine calD e.d_items_of b_items_of sc_items_of (fun vs H Q E h => ?_) fun f cdv A outer s H vs Q E hr h => ?_
  · obtain ⟨r, _, rfl, _⟩ := h; rfl
  obtain ⟨r, q, rfl, hq, hd, hz, hQ⟩ := h
  have hdp := q.deep_pos
  obtain ⟨p, xs, ps, rfl, hp, he, hfl, hx3⟩ := hq.parts
  have hwl := q.words_len
  refine ⟨_, (pss_cons (ps_set (i := 1) sc_items_of.nd rfl (.inl rfl) (pe_lst pa_nil))
    (pss_cons (ps_for PassesOwn.never rfl (pi_tup (pv 0)) (pg_name (i := 2) sc_items_of.nd rfl (.inl rfl))
    (pss_one (ps_if (pt_val (pe_callB call_isi rfl e.n_isinstance (by decide +kernel) (pa_cons (pv 2) (pa_cons (pe_ty (n := "str") e.n_str) pa_nil)))) (pss_one (ps_expr (pe_bm PySem.F.plainAttrs_list PySem.F.slot_list_append PySem.F.type_list_append mt_append (pv 1) (pa_cons (pv 2) pa_nil)))) (pss_one (ps_expr (pe_bm PySem.F.plainAttrs_list PySem.F.slot_list_extend PySem.F.type_list_extend mt_extend (pv 1) (pa_cons (C8.pe_c c_items_of hr (by first | decide | omega) rfl (pa_cons (pv 2) pa_nil)) pa_nil)))))))
    (pss_one (ps_ret (pv 1))))), ?_⟩
  refine ⟨Nat.zero_le _, fun D hD => ?_⟩
  refine ⟨_, rfl, p, rfl, ⟨_, sqT (new1 hD) hp⟩, ?_⟩
  refine for_it (walk_tup (xs := xs)) (fun i σ' H' => (∃ t, σ' = [some (.ref p), some (.ref D), t]) ∧ Same H H' ∧ H' D = some (.lst (((ps.take i).flatten).map V.str))) ⟨⟨none, rfl⟩, new1 hD, upd_same⟩ (fun i σ' H' _ z => sqT z.2.1 hp) (fun i x σ' H1 H2 hi z hY => ?_) fun σ' H' z => ?_
  · obtain ⟨rfl, hx⟩ := hY
    obtain ⟨⟨t, rfl⟩, s1, hD1⟩ := z
    have hi2 : i < ps.length := by rw [← he.1]; exact hi
    have hpi := List.getElem?_eq_getElem hi2
    have hle := flat_le ps (i + 1)
    rw [flat_take hpi, hfl, hwl, List.length_append] at hle
    rcases (he.2 i x _ hx hpi).to (same_sq s1) with ⟨z, rfl, hw⟩ | ⟨q2, hq2, hd2, hw⟩
    · refine ⟨_, rfl, _, _, _, _, true, rfl, .ty "str", ty_str, kit_ty (by decide +kernel), true, rfl, ite_yes rfl ?_⟩
      refine ⟨_, rfl, .inl ⟨rfl, _, .inl (.inl hD1)⟩, _, rfl, D, _, _, rfl, rfl, hD1, smallLt (m := 1000) (by rw [List.length_map]; omega), ?_⟩
      refine ⟨⟨_, rfl⟩, same3 hD s1, ?_⟩
      rw [upd_same, flat_take hpi, hw, List.map_append] <;> rfl
    · obtain ⟨p2, xs2, _, rfl, hp2, _⟩ := hq2.parts
      refine ⟨_, rfl, _, _, _, _, false, rfl, .ty "str", ty_tup hp2, kit_ty (by decide +kernel), false, rfl, ite_no rfl ?_⟩
      have hz2 : q2.size ≤ 1000 := by
        rw [hw, q2.words_len] at hle
        omega
      refine ⟨_, rfl, .inl ⟨rfl, _, .inl (.inl hD1)⟩, _, rfl, _, q2, rfl, hq2, by omega, hz2, fun l H3 s3 hl3 => ?_⟩
      refine ⟨D, l, _, _, rfl, rfl, s3 _ _ hD1, hl3, small (m := 2000) (by rw [List.length_map, List.length_map]; rw [hw] at hle; omega), ?_⟩
      refine ⟨⟨_, rfl⟩, same3 hD (Same.tr s1 s3), ?_⟩
      rw [upd_same, flat_take hpi, hw, List.map_append] <;> rfl
  · obtain ⟨⟨t, rfl⟩, s1, hD1⟩ := z
    rw [he.1, List.take_length, hfl] at hD1
    exact ⟨_, rfl, hQ D H' s1 hD1⟩
theorem c_items_of (e : Ev w K mg cS cQ cT) : ∀ n, C8.Cal P w K mg base n "items_of" (spItems K n) []
  | 0 => calNone e.d_items_of b_items_of fun vs H Q E ⟨_, _, _, _, h, _⟩ => by omega
  | n + 1 => s_items_of e (c_items_of e n)
theorem sc_looks_of : FnScope ["root", "part"] ["root"] (defScope (top 34)) := ⟨rfl, rfl, rfl, by decide +kernel, rfl, by decide +kernel, by decide +kernel⟩
def spLooks (K : PySem.W.Frag) (k : Nat) : Sp := fun vs H Q _ => ∃ (r : V) (q : Qn), vs = [r] ∧ QAt K H r q ∧ q.deep + 1 ≤ k ∧ ∀ H', Same H H' → Q (.int (q.looks : Int)) H'
theorem b_looks_of : BindOk "looks_of" "looks_of" (top 34) ["root"] := fun _ _ _ _ _ _ us hl => match us, hl with | [_], _ => rfl
theorem inV_str (z : Str) (l : List Str) : inV (.str z) (l.map V.str) = l.any fun y => y == z := by
  unfold inV
  rw [List.any_map]
  rfl
theorem s_looks_of {k : Nat} (e : Ev w K mg cS cQ cT) (c_looks_of : C8.Cal P w K mg base k "looks_of" (spLooks K k) []) : C8.Cal P w K mg base (k + 1) "looks_of" (spLooks K (k + 1)) [] := by
  obtain ⟨aP, hP, tP⟩ := e.t_PLAIN
  obtain ⟨aL, hL, tL⟩ := e.t_LOOKS
  have g_PLAIN : GV mg "PLAIN" (.ref aP) := ⟨_, hP, rfl⟩
  have g_LOOKS : GV mg "LOOKS" (.ref aL) := ⟨_, hL, rfl⟩
  refine calD e.d_looks_of b_looks_of sc_looks_of (fun vs H Q E h => ?_) fun f cdv A outer s H vs Q E hr h => ?_
  · obtain ⟨r, _, rfl, _⟩ := h; rfl
  obtain ⟨r, q, rfl, hq, hd, hQ⟩ := h
  refine ⟨_, (pss_cons (ps_if (pt_cmpR op_in_seq (pe_ix ix_tup (pv 0) pe_int (fun _ _ => rfl)) (C8.pe_gc rfl g_PLAIN) rfl) (pss_one (ps_ret pe_int)) pss_nil)
    (pss_cons (ps_if (pt_cmpR op_in_seq (pe_ix ix_tup (pv 0) pe_int (fun _ _ => rfl)) (C8.pe_gc rfl g_LOOKS) rfl) (pss_one (ps_ret (pe_op op_add pe_int (C8.pe_c c_looks_of hr (by first | decide | omega) rfl (pa_cons (pe_ix ix_tup (pv 0) pe_int (fun _ _ => rfl)) pa_nil))))) pss_nil)
    (pss_one (ps_ret (pe_callB (cr_max rfl) rfl e.n_max (by decide +kernel) (pa_cons (pe_lc (own := [("part", 1)]) (tt := tYes) rfl sc_looks_of.nd (pi_tup (pe_slice sl_tup (pv 0) (po_some pe_int) po_none)) (blkOk_by (N := ["root", "part"]) (sc := defScope (top 34)) (by decide +kernel)) (fun _ _ _ _ _ => (pg_name (i := 1) sc_looks_of.nd rfl (.inl rfl))) (fun _ _ _ _ _ => pts_nil) (fun _ _ _ _ _ => (C8.pe_c c_looks_of hr (by first | decide | omega) rfl (pa_cons (pv 1) pa_nil)))) pa_nil)))))), ?_⟩
  cases q with
  | atom t a b =>
    obtain ⟨pr, rfl, hpr⟩ := hq
    refine ⟨_, rfl, pr, _, _, _, rfl, rfl, hpr, atN (i := 0) rfl, aP, _, rfl, .inr (tP H), rfl, rfl, _, rfl, ite_yes (by cases t <;> decide +kernel) ?_⟩
    exact hQ H (Same.refl _)
  | look s a q =>
    obtain ⟨pr, uu, rfl, hpr, hq1⟩ := hq
    simp only [Qn.deep] at hd
    refine ⟨_, rfl, pr, _, _, _, rfl, rfl, hpr, atN (i := 0) rfl, aP, _, rfl, .inr (tP H), rfl, rfl, _, rfl, ite_no (by cases s <;> decide +kernel) ?_⟩
    refine ⟨_, rfl, pr, _, _, _, rfl, rfl, hpr, atN (i := 0) rfl, aL, _, rfl, .inr (tL H), rfl, rfl, _, rfl, ite_yes (by cases s <;> decide +kernel) ?_⟩
    refine ⟨_, rfl, pr, _, _, _, rfl, rfl, hpr, atN (i := 2) rfl, uu, q, rfl, hq1, by omega, fun H1 s1 => ⟨_, _, rfl, rfl, ?_⟩⟩
    have e1 : V.int (1 + (q.looks : Int)) = V.int (((Qn.look s a q).looks : Nat) : Int) := by
      simp only [Qn.looks]
      exact congrArg V.int (by omega)
    show Q (V.int (1 + (q.looks : Int))) H1
    rw [e1]
    exact hQ H1 s1
  | neg q =>
    obtain ⟨pr, uu, rfl, hpr, hq1⟩ := hq
    simp only [Qn.deep] at hd
    refine ⟨_, rfl, pr, _, _, _, rfl, rfl, hpr, atN (i := 0) rfl, aP, _, rfl, .inr (tP H), rfl, rfl, _, rfl, ite_no (by decide +kernel) ?_⟩
    refine ⟨_, rfl, pr, _, _, _, rfl, rfl, hpr, atN (i := 0) rfl, aL, _, rfl, .inr (tL H), rfl, rfl, _, rfl, ite_no (by decide +kernel) ?_⟩
    refine ⟨_, rfl, _, rfl, pr, _, rfl, hpr, (fun z => by cases whole1 z), fun p hp => ?_⟩
    rw [cut1]
    have s0 := new1 (o := .tup [uu]) hp
    refine ⟨p, rfl, ⟨_, .inl (.inl upd_same)⟩, fun D hD => ?_⟩
    refine lc_told (walk_tup (xs := [uu])) hD (by simp) [.int (q.looks : Int)] rfl (fun H' s' => .inl (.inl (s' _ _ upd_same))) (fun i x y H1 H2 ys Kk hy s1 _ hY hk => ?_) fun H' s1 hD1 => ?_
    · obtain ⟨rfl, hx⟩ := hY
      cases i with
      | zero =>
        cases hx
        cases hy
        exact ⟨rfl, _, rfl, _, q, rfl, hq1.to (same_sq (Same.tr s0 s1)), by omega, hk⟩
      | succ i => simp at hx
    · refine ⟨D, [(q.looks : Int)], rfl, .inl (.inl hD1), Nat.succ_pos _, fun m hm _ => ?_⟩
      rw [List.mem_singleton.mp hm]
      exact hQ _ (Same.tr s0 s1)
  | bin o q1 q2 =>
    obtain ⟨pr, u1, u2, rfl, hpr, hq1, hq2⟩ := hq
    simp only [Qn.deep] at hd
    refine ⟨_, rfl, pr, _, _, _, rfl, rfl, hpr, atN (i := 0) rfl, aP, _, rfl, .inr (tP H), rfl, rfl, _, rfl, ite_no (by cases o <;> decide +kernel) ?_⟩
    refine ⟨_, rfl, pr, _, _, _, rfl, rfl, hpr, atN (i := 0) rfl, aL, _, rfl, .inr (tL H), rfl, rfl, _, rfl, ite_no (by cases o <;> decide +kernel) ?_⟩
    refine ⟨_, rfl, _, rfl, pr, _, rfl, hpr, (fun z => by cases whole1 z), fun p hp => ?_⟩
    rw [cut1]
    have s0 := new1 (o := .tup [u1, u2]) hp
    refine ⟨p, rfl, ⟨_, .inl (.inl upd_same)⟩, fun D hD => ?_⟩
    refine lc_told (walk_tup (xs := [u1, u2])) hD (by simp) [.int (q1.looks : Int), .int (q2.looks : Int)] rfl (fun H' s' => .inl (.inl (s' _ _ upd_same))) (fun i x y H1 H2 ys Kk hy s1 _ hY hk => ?_) fun H' s1 hD1 => ?_
    · obtain ⟨rfl, hx⟩ := hY
      match i, hx, hy with
      | 0, hx, hy =>
        cases hx
        cases hy
        exact ⟨rfl, _, rfl, _, q1, rfl, hq1.to (same_sq (Same.tr s0 s1)), by omega, hk⟩
      | 1, hx, hy =>
        cases hx
        cases hy
        exact ⟨rfl, _, rfl, _, q2, rfl, hq2.to (same_sq (Same.tr s0 s1)), by omega, hk⟩
      | i + 2, hx, hy => simp at hx
    · refine ⟨D, [(q1.looks : Int), (q2.looks : Int)], rfl, .inl (.inl hD1), Nat.succ_pos _, fun m hm hle => ?_⟩
      have e1 : m = (((Qn.bin o q1 q2).looks : Nat) : Int) := by
        have a1 := hle (q1.looks : Int) (by simp)
        have a2 := hle (q2.looks : Int) (by simp)
        simp only [List.mem_cons, List.not_mem_nil, or_false] at hm
        simp only [Qn.looks]
        omega
      rw [e1]
      exact hQ _ (Same.tr s0 s1)
theorem c_looks_of (e : Ev w K mg cS cQ cT) : ∀ n, C8.Cal P w K mg base n "looks_of" (spLooks K n) []
  | 0 => calNone e.d_looks_of b_looks_of fun vs H Q E ⟨_, _, _, _, h, _⟩ => by omega
  | n + 1 => s_looks_of e (c_looks_of e n)
theorem sc_free_of : FnScope ["root", "name", "part"] ["root"] (defScope (top 33)) := ⟨rfl, rfl, rfl, by decide +kernel, rfl, by decide +kernel, by decide +kernel⟩
def nmV (a : Nm) : V := .str (nmS a)
def spFree (K : PySem.W.Frag) (k : Nat) : Sp := fun vs H Q _ => ∃ (r : V) (q : Qn), vs = [r] ∧ QAt K H r q ∧ q.deep + 1 ≤ k ∧ q.size ≤ 1000 ∧ ∀ l H', Same H H' → H l = none → H' l = some (.lst (q.free.map nmV)) → Q (.ref l) H'
theorem b_free_of : BindOk "free_of" "free_of" (top 33) ["root"] := fun _ _ _ _ _ _ us hl => match us, hl with | [_], _ => rfl
theorem Qn.free_len : ∀ q : Qn, q.free.length ≤ q.size
  | .atom _ _ _ => by simp [Qn.free, Qn.size]
  | .neg q => by have := q.free_len; simp only [Qn.free, Qn.size]; omega
  | .bin _ q r => by have := q.free_len; have := r.free_len; simp only [Qn.free, Qn.size, List.length_append]; omega
  | .look _ a q => by
    have := q.free_len
    have h := List.length_filter_le (fun b => decide (b ≠ a)) q.free
    simp only [Qn.free, Qn.size]
    omega
/-- [y for x in xs for y in f(x)], the slots those of free_of -/
theorem lc_flat {J : It} {n : Nat} {G : Hp → Prop} {xs : List V} {r : Option V} {t1 t2 : Option V} {H1 : Hp} {D : Addr} {Qd : Hp → Prop} {wi : TI} (w : Walk J n G (YAt xs)) (hD : H1 D = none) (outs : List (List V)) (ho : outs.length = n) (hz : outs.flatten.length ≤ 9000) (hG : ∀ H, Same H1 H → G H)
    (hs : ∀ (i : Nat) x ys H (R : It → Hp → Prop), xs[i]? = some x → outs[i]? = some ys → Same H1 H → (∀ l H', Same H H' → H l = none → H' l = some (.lst ys) → R (Itl K l) H') → wi [r, none, some x] H R)
    (hd : ∀ H, Same H1 H → H D = some (.lst outs.flatten) → Qd H) :
    ∃ W : Nat → Nat → Hp → Prop, (∃ m, W 0 m (upd H1 D (.lst []))) ∧ ∀ i m H, W i m H →
      (J.stop i H ∧ Qd H) ∨ (J.go i H ∧ ∃ Nx : Hp → Prop, (∀ H', Nx H' → ∃ m', m' < m ∧ W (i + 1) m' H') ∧ ∀ x H', J.yld i H x H' → gName 2 x (wipe [r, t1, t2] [2, 1]) H' fun σ2 H2 => wipe σ2 [2, 1] = wipe [r, t1, t2] [2, 1] ∧ tYes σ2 H2 fun b H3 =>
        if b = true then wi σ2 H3 fun J1 H4 => ∃ W1 : Nat → Nat → Hp → Prop, (∃ m, W1 0 m H4) ∧ ∀ j k H, W1 j k H →
          (J1.stop j H ∧ Nx H) ∨ (J1.go j H ∧ ∃ Nx1 : Hp → Prop, (∀ H', Nx1 H' → ∃ k', k' < k ∧ W1 (j + 1) k' H') ∧ ∀ x H', J1.yld j H x H' → gName 1 x (wipe σ2 [1]) H' fun σ3 H5 => wipe σ3 [1] = wipe σ2 [1] ∧ tYes σ3 H5 fun b H6 =>
            if b = true then tVar 1 σ3 H6 fun y H7 => ∃ acc, H7 D = some (.lst acc) ∧ acc.length < sizeLine ∧ Nx1 (upd H7 D (.lst (acc ++ [y]))) else Nx1 H6)
        else Nx H3) := by
  subst ho
  refine ⟨fun i m H => m = outs.length - i ∧ i ≤ outs.length ∧ Same H1 H ∧ H D = some (.lst (outs.take i).flatten), ⟨outs.length, by simp, Nat.zero_le _, new1 hD, upd_same⟩, ?_⟩
  rintro i m H ⟨rfl, hi, s, hl⟩
  by_cases c : i < outs.length
  · refine .inr ⟨w.goes i H c (hG H s), fun H' => Same H1 H' ∧ H' D = some (.lst (outs.take (i + 1)).flatten), fun H' z => ⟨outs.length - (i + 1), by omega, rfl, c, z⟩, fun x H' y => ?_⟩
    obtain ⟨rfl, hx⟩ := w.yields i H x H' c (hG H s) y
    have ho := List.getElem?_eq_getElem c
    refine ⟨rfl, hs i x outs[i] H' _ hx ho s fun l H2 s2 hl1 hl2 => ?_⟩
    have hfl := flat_take ho
    have hle := flat_le outs (i + 1)
    rw [hfl, List.length_append] at hle
    have ne : l ≠ D := fun z => by
      rw [z, hl] at hl1
      cases hl1
    generalize outs[i] = ys at hl2 hfl hle
    refine ⟨fun j k H => k = ys.length - j ∧ j ≤ ys.length ∧ Same H1 H ∧ H l = some (.lst ys) ∧ H D = some (.lst ((outs.take i).flatten ++ ys.take j)), ⟨ys.length, by simp, Nat.zero_le _, Same.tr s s2, hl2, by rw [List.take_zero, List.append_nil]; exact s2 _ _ hl⟩, ?_⟩
    rintro j k H3 ⟨rfl, hj, s3, hl3, hD3⟩
    by_cases d : j < ys.length
    · refine .inr ⟨⟨ys, ys[j], .inl (.inl hl3), by simp [d]⟩, fun H4 => Same H1 H4 ∧ H4 l = some (.lst ys) ∧ H4 D = some (.lst ((outs.take i).flatten ++ ys.take (j + 1))), fun H4 z => ⟨ys.length - (j + 1), by omega, rfl, d, z⟩, fun y H4 hy => ?_⟩
      obtain ⟨rfl, hy⟩ := hy
      have hyj := hy ys (.inl (.inl hl3))
      refine ⟨rfl, y, rfl, _, hD3, smallLt (m := 9000) (by rw [List.length_append, List.length_take]; omega), same3 hD s3, by rw [upd_ne ne]; exact hl3, ?_⟩
      rw [upd_same, List.take_add_one, hyj, List.append_assoc]
      rfl
    · have ej : j = ys.length := by omega
      subst ej
      rw [List.take_length, ← hfl] at hD3
      exact .inl ⟨⟨ys, .inl (.inl hl3), Nat.le_refl _⟩, s3, hD3⟩
  · have ei : i = outs.length := by omega
    subst ei
    rw [List.take_length] at hl
    exact .inl ⟨w.stops H (hG H s), hd H s hl⟩
def keepAt {α : Type} (p : α → Bool) (l : List α) (i : Nat) : Bool := (l[i]?.map p).getD false
theorem range_keep {α β : Type} (p : α → Bool) (f : α → β) (d : β) : ∀ l : List α, ((List.range l.length).filter (keepAt p l)).map (fun i => (l.map f)[i]?.getD d) = (l.filter p).map f
  | [] => rfl
  | x :: r => by
    have ih := range_keep p f d r
    rw [List.length_cons, List.range_succ_eq_map, List.filter_cons, List.filter_map, List.filter_cons]
    have e1 : keepAt p (x :: r) ∘ Nat.succ = keepAt p r := rfl
    rw [e1]
    have e2 : (fun i => ((x :: r).map f)[i]?.getD d) ∘ Nat.succ = fun i => (r.map f)[i]?.getD d := rfl
    have e0 : keepAt p (x :: r) 0 = p x := rfl
    rw [e0]
    cases h : p x with
    | true =>
      rw [if_pos rfl, if_pos rfl, List.map_cons, List.map_map, e2, ih]
      rfl
    | false =>
      rw [if_neg Bool.false_ne_true, if_neg Bool.false_ne_true, List.map_map, e2, ih]
theorem s_free_of {k : Nat} (e : Ev w K mg cS cQ cT) (c_free_of : C8.Cal P w K mg base k "free_of" (spFree K k) []) : C8.Cal P w K mg base (k + 1) "free_of" (spFree K (k + 1)) [] := by
  obtain ⟨aP, hP, tP⟩ := e.t_PLAIN
  obtain ⟨aL, hL, tL⟩ := e.t_LOOKS
  have g_PLAIN : GV mg "PLAIN" (.ref aP) := ⟨_, hP, rfl⟩
  have g_LOOKS : GV mg "LOOKS" (.ref aL) := ⟨_, hL, rfl⟩
  refine calD e.d_free_of b_free_of sc_free_of (fun vs H Q E h => ?_) fun f cdv A outer s H vs Q E hr h => ?_
  · obtain ⟨r, _, rfl, _⟩ := h; rfl
  obtain ⟨r, q, rfl, hq, hd, hz, hQ⟩ := h
  refine ⟨_, (pss_cons (ps_if (pt_cmpR op_in_seq (pe_ix ix_tup (pv 0) pe_int (fun _ _ => rfl)) (C8.pe_gc rfl g_PLAIN) rfl) (pss_one (ps_ret (pe_callTy call_list_of rfl e.n_list (by decide +kernel) (pa_cons (pe_slice sl_tup (pv 0) (po_some pe_int) po_none) pa_nil)))) pss_nil)
    (pss_cons (ps_if (pt_cmpR op_in_seq (pe_ix ix_tup (pv 0) pe_int (fun _ _ => rfl)) (C8.pe_gc rfl g_LOOKS) rfl) (pss_one (ps_ret (pe_lc (own := [("name", 1)]) rfl sc_free_of.nd (pi_list (C8.pe_c c_free_of hr (by first | decide | omega) rfl (pa_cons (pe_ix ix_tup (pv 0) pe_int (fun _ _ => rfl)) pa_nil))) (blkOk_by (N := ["root", "name", "part"]) (sc := defScope (top 33)) (by decide +kernel)) (fun _ _ _ _ _ => (pg_name (i := 1) sc_free_of.nd rfl (.inl rfl))) (fun _ _ _ _ _ => (pts_one (pt_cmpR op_ne (pv 1) (pe_ix (ixTK (K := K) rfl) (pv 0) pe_int (fun _ _ => rfl)) (nomark _)))) (fun _ _ _ _ _ => (pv 1))))) pss_nil)
    (pss_one (ps_ret (pe_lc2 (own := [("part", 2), ("name", 1)]) (vs1 := [1]) rfl sc_free_of.nd (pi_tup (pe_slice sl_tup (pv 0) (po_some pe_int) po_none)) (blkOk_by (N := ["root", "name", "part"]) (sc := defScope (top 33)) (by decide +kernel)) (by decide) (fun _ _ _ _ _ => (pg_name (i := 2) sc_free_of.nd rfl (.inl rfl))) (fun _ _ _ _ _ => pts_nil) (fun _ _ _ _ _ => (pi_listK (K := K) rfl (C8.pe_c c_free_of hr (by first | decide | omega) rfl (pa_cons (pv 2) pa_nil)))) (fun _ _ _ _ _ => (pg_name (i := 1) sc_free_of.nd rfl (.inl rfl))) (fun _ _ _ _ _ => pts_nil) (fun _ _ _ _ _ => (pv 1))))))), ?_⟩
  cases q with
  | atom t a b =>
    obtain ⟨pr, rfl, hpr⟩ := hq
    refine ⟨_, rfl, pr, _, _, _, rfl, rfl, hpr, atN (i := 0) rfl, aP, _, rfl, .inr (tP H), rfl, rfl, _, rfl, ite_yes (by cases t <;> decide +kernel) ?_⟩
    refine ⟨_, rfl, _, rfl, pr, _, rfl, hpr, (fun z => by cases whole1 z), fun p hp => ?_⟩
    rw [cut1]
    refine ⟨p, _, rfl, .inr (.inl (.inl upd_same)), fun l hl => ?_⟩
    exact hQ l _ (same2 (new1 hp) hl) ((new1 hp).free hl) upd_same
  | look s a q =>
    obtain ⟨pr, uu, rfl, hpr, hq1⟩ := hq
    simp only [Qn.deep] at hd
    simp only [Qn.size] at hz
    have hfl := q.free_len
    refine ⟨_, rfl, pr, _, _, _, rfl, rfl, hpr, atN (i := 0) rfl, aP, _, rfl, .inr (tP H), rfl, rfl, _, rfl, ite_no (by cases s <;> decide +kernel) ?_⟩
    refine ⟨_, rfl, pr, _, _, _, rfl, rfl, hpr, atN (i := 0) rfl, aL, _, rfl, .inr (tL H), rfl, rfl, _, rfl, ite_yes (by cases s <;> decide +kernel) ?_⟩
    refine ⟨_, rfl, pr, _, _, _, rfl, rfl, hpr, atN (i := 2) rfl, uu, q, rfl, hq1, by omega, by omega, fun l H1 s1 _ hl1 => ⟨l, rfl, ⟨_, .inl (.inl hl1)⟩, fun D hD => ?_⟩⟩
    refine lc_keep (walk_list (xs := q.free.map nmV)) hD (by rw [List.length_map]; omega) (keepAt (fun b => decide (b ≠ a)) q.free) (fun i => (q.free.map nmV)[i]?.getD .non) (fun H' s' => .inl (.inl (s' _ _ hl1))) (fun i x H2 H3 ys Kn Kk hi s2 _ hY h1 h2 => ?_) fun H' s2 hD2 => ?_
    · obtain ⟨rfl, hx⟩ := hY
      obtain ⟨b, hb, rfl⟩ := map_at hx
      have hke : keepAt (fun b => decide (b ≠ a)) q.free i = decide (b ≠ a) := by
        unfold keepAt
        rw [hb] <;> rfl
      rw [hke] at h1 h2
      rw [hx] at h1
      refine ⟨rfl, _, rfl, _, rfl, pr, _, _, _, rfl, rfl, sqT (Same.tr s1 s2) hpr, atN (i := 1) rfl, rfl, _, rfl, ?_⟩
      have e1 : (!decide (V.str (nmS b) = V.str (nmS a))) = decide (b ≠ a) := by
        by_cases c : b = a
        · subst c; simp
        · have : ¬ V.str (nmS b) = V.str (nmS a) := fun z => c (nmS_inj (V.str.inj z))
          simp [c, this]
      show if (!decide (V.str (nmS b) = V.str (nmS a))) = true then _ else _
      rw [e1]
      refine ite2 (fun c => ⟨_, rfl, h1 _ (Same.refl _) c⟩) fun c => h2 _ (Same.refl _) (by simpa using c)
    · refine hQ D H' (Same.tr s1 s2) (s1.free hD) ?_
      rw [hD2]
      have e2 := range_keep (fun b => decide (b ≠ a)) nmV V.non q.free
      rw [List.length_map, e2] <;> rfl
  | neg q =>
    obtain ⟨pr, uu, rfl, hpr, hq1⟩ := hq
    simp only [Qn.deep] at hd
    simp only [Qn.size] at hz
    have hfl := q.free_len
    refine ⟨_, rfl, pr, _, _, _, rfl, rfl, hpr, atN (i := 0) rfl, aP, _, rfl, .inr (tP H), rfl, rfl, _, rfl, ite_no (by decide +kernel) ?_⟩
    refine ⟨_, rfl, pr, _, _, _, rfl, rfl, hpr, atN (i := 0) rfl, aL, _, rfl, .inr (tL H), rfl, rfl, _, rfl, ite_no (by decide +kernel) ?_⟩
    refine ⟨_, rfl, _, rfl, pr, _, rfl, hpr, (fun z => by cases whole1 z), fun p hp => ?_⟩
    rw [cut1]
    have s0 := new1 (o := .tup [uu]) hp
    refine ⟨p, rfl, ⟨_, .inl (.inl upd_same)⟩, fun D hD => ?_⟩
    refine lc_flat (K := K) (walk_tup (xs := [uu])) hD [q.free.map nmV] rfl (by simp; omega) (fun H' s' => .inl (.inl (s' _ _ upd_same))) (fun i x ys H1 R hx hy s1 hk => ?_) fun H' s1 hD1 => ?_
    · match i, hx, hy with
      | 0, hx, hy =>
        cases hx
        cases hy
        exact ⟨_, rfl, _, q, rfl, hq1.to (same_sq (Same.tr s0 s1)), by omega, by omega, fun l H2 s2 h0 hl => ⟨l, rfl, ⟨_, .inl (.inl hl)⟩, hk l H2 s2 h0 hl⟩⟩
      | i + 1, hx, hy => simp at hx
    · refine hQ D H' (Same.tr s0 s1) (s0.free hD) ?_
      rw [hD1]
      simp [Qn.free]
  | bin o q1 q2 =>
    obtain ⟨pr, u1, u2, rfl, hpr, hq1, hq2⟩ := hq
    simp only [Qn.deep] at hd
    simp only [Qn.size] at hz
    have hfl1 := q1.free_len
    have hfl2 := q2.free_len
    refine ⟨_, rfl, pr, _, _, _, rfl, rfl, hpr, atN (i := 0) rfl, aP, _, rfl, .inr (tP H), rfl, rfl, _, rfl, ite_no (by cases o <;> decide +kernel) ?_⟩
    refine ⟨_, rfl, pr, _, _, _, rfl, rfl, hpr, atN (i := 0) rfl, aL, _, rfl, .inr (tL H), rfl, rfl, _, rfl, ite_no (by cases o <;> decide +kernel) ?_⟩
    refine ⟨_, rfl, _, rfl, pr, _, rfl, hpr, (fun z => by cases whole1 z), fun p hp => ?_⟩
    rw [cut1]
    have s0 := new1 (o := .tup [u1, u2]) hp
    refine ⟨p, rfl, ⟨_, .inl (.inl upd_same)⟩, fun D hD => ?_⟩
    refine lc_flat (K := K) (walk_tup (xs := [u1, u2])) hD [q1.free.map nmV, q2.free.map nmV] rfl (by simp; omega) (fun H' s' => .inl (.inl (s' _ _ upd_same))) (fun i x ys H1 R hx hy s1 hk => ?_) fun H' s1 hD1 => ?_
    · match i, hx, hy with
      | 0, hx, hy =>
        cases hx
        cases hy
        exact ⟨_, rfl, _, q1, rfl, hq1.to (same_sq (Same.tr s0 s1)), by omega, by omega, fun l H2 s2 h0 hl => ⟨l, rfl, ⟨_, .inl (.inl hl)⟩, hk l H2 s2 h0 hl⟩⟩
      | 1, hx, hy =>
        cases hx
        cases hy
        exact ⟨_, rfl, _, q2, rfl, hq2.to (same_sq (Same.tr s0 s1)), by omega, by omega, fun l H2 s2 h0 hl => ⟨l, rfl, ⟨_, .inl (.inl hl)⟩, hk l H2 s2 h0 hl⟩⟩
      | i + 2, hx, hy => simp at hx
    · refine hQ D H' (Same.tr s0 s1) (s0.free hD) ?_
      rw [hD1]
      simp [Qn.free]
theorem c_free_of (e : Ev w K mg cS cQ cT) : ∀ n, C8.Cal P w K mg base n "free_of" (spFree K n) []
  | 0 => calNone e.d_free_of b_free_of fun vs H Q E ⟨_, _, _, _, h, _⟩ => by omega
  | n + 1 => s_free_of e (c_free_of e n)
end
end K61

end

section
set_option linter.all false
set_option maxRecDepth 100000
set_option maxHeartbeats 4000000
/-! K61, walk 9: Question. -/
namespace K61
open PySem PySem.Spec PyProof.Rows L2
section
variable {P : Program} {w : World} {K : PySem.W.Frag} {mg : Str → Option Value} {base : Heap} {cS cQ cT : Addr}
/-! ### need_question, need_closed -/
theorem sc_need_question : FnScope ["value", "part"] ["value", "part"] (defScope (top 29)) := ⟨rfl, rfl, rfl, by decide +kernel, rfl, by decide +kernel, by decide +kernel⟩
def spIns (C : Addr) : Sp := fun vs H Q _ => ∃ (a dx : Addr) (fs : List (Str × V)) (z : Str), vs = [.ref a, .str z] ∧ H a = some (.ins C dx fs) ∧ Q .non H
theorem b_need_question (e : Ev w K mg cS cQ cT) : BodyOk P w K mg base "need_question" (top 29) ["value", "part"] 0 (spIns cQ) := fun f cdv A outer s H vs Q E hr h => by
  obtain ⟨a, dx, fs, z, rfl, ha, q⟩ := h
  refine ⟨_, (pss_one (ps_if (pt_not (pt_val (pe_callB (C8.call_isC e.i_Question) rfl e.n_isinstance (by decide +kernel) (pa_cons (pv 0) (pa_cons (C8.pe_gc rfl e.g_Question) pa_nil))))) pss_never pss_nil)), ?_⟩
  exact ⟨_, rfl, a, dx, fs, rfl, ha, true, rfl, ite_no rfl q⟩
theorem l_ins {C : Addr} (vs : List V) (H : Hp) (Q : VK) (E : XK) (h : spIns C vs H Q E) : vs.length = 2 := by
  obtain ⟨a, dx, fs, z, rfl, _⟩ := h; rfl
theorem c_need_question (e : Ev w K mg cS cQ cT) : C8.Cal P w K mg base 1 "need_question" (spIns cQ) [.str "question"] :=
  calD1 (n := 1) (j := 0) e.d_need_question (by simp) rfl (fun _ _ _ _ _ _ _ us its h1 h2 => match us, h1, its, h2 with | [_], _, [_], _ => ⟨_, rfl, rfl⟩) sc_need_question l_ins (b_need_question e)
theorem c_need_question2 (e : Ev w K mg cS cQ cT) : C8.Cal P w K mg base 1 "need_question" (spIns cQ) [] :=
  calD1 (n := 2) (j := 1) e.d_need_question (by simp) rfl (fun _ _ _ _ _ _ _ us its h1 h2 => match us, h1, its, h2 with | [_, _], _, [_], _ => ⟨_, rfl, rfl⟩) sc_need_question l_ins (b_need_question e)
theorem sc_need_town : FnScope ["value", "part"] ["value", "part"] (defScope (top 38)) := ⟨rfl, rfl, rfl, by decide +kernel, rfl, by decide +kernel, by decide +kernel⟩
theorem b_need_town (e : Ev w K mg cS cQ cT) : BodyOk P w K mg base "need_town" (top 38) ["value", "part"] 0 (spIns cT) := fun f cdv A outer s H vs Q E hr h => by
  obtain ⟨a, dx, fs, z, rfl, ha, q⟩ := h
  refine ⟨_, (pss_one (ps_if (pt_not (pt_val (pe_callB (C8.call_isC e.i_Town) rfl e.n_isinstance (by decide +kernel) (pa_cons (pv 0) (pa_cons (C8.pe_gc rfl e.g_Town) pa_nil))))) pss_never pss_nil)), ?_⟩
  exact ⟨_, rfl, a, dx, fs, rfl, ha, true, rfl, ite_no rfl q⟩
theorem c_need_town (e : Ev w K mg cS cQ cT) : C8.Cal P w K mg base 1 "need_town" (spIns cT) [.str "town"] :=
  calD1 (n := 1) (j := 0) e.d_need_town (by simp) rfl (fun _ _ _ _ _ _ _ us its h1 h2 => match us, h1, its, h2 with | [_], _, [_], _ => ⟨_, rfl, rfl⟩) sc_need_town l_ins (b_need_town e)
/-- a Question at v -/
def quF (r : V) (tx : Str) (f : Addr) (k : Nat) : List (Str × V) := [("root", r), ("text", .str tx), ("free", .ref f), ("looks", .int (k : Int)), ("is_closed", .bl true)]
def QuAt (K : PySem.W.Frag) (cQ : Addr) (H : Hp) (v : V) (q : Qn) : Prop := ∃ (a dx : Addr) (r : V) (tx : Str) (f : Addr), v = .ref a ∧ H a = some (.ins cQ dx (quF r tx f q.looks)) ∧ QAt K H r q
theorem QuAt.to {H H' : Hp} (s : Same H H') {v : V} {q : Qn} : QuAt K cQ H v q → QuAt K cQ H' v q
  | ⟨a, dx, r, tx, f, h1, h2, h3⟩ => ⟨a, dx, r, tx, f, h1, s _ _ h2, h3.to (same_sq s)⟩
theorem sc_need_closed : FnScope ["question"] ["question"] (defScope (top 30)) := ⟨rfl, rfl, rfl, by decide +kernel, rfl, by decide +kernel, by decide +kernel⟩
def spClosed (K : PySem.W.Frag) (cQ : Addr) : Sp := fun vs H Q _ => ∃ (v : V) (q : Qn), vs = [v] ∧ QuAt K cQ H v q ∧ q.looks ≤ 3 ∧ Q .non H
theorem c_need_closed (e : Ev w K mg cS cQ cT) : C8.Cal P w K mg base 1 "need_closed" (spClosed K cQ) [] := by
  refine calD e.d_need_closed (fun _ _ _ _ _ _ us hl => match us, hl with | [_], _ => rfl) sc_need_closed (fun vs H Q E h => ?_) fun f cdv A outer s H vs Q E hr h => ?_
  · obtain ⟨v, _, rfl, _⟩ := h; rfl
  obtain ⟨v, q, rfl, ⟨a, dx, r, tx, fr, rfl, ha, hr0⟩, hl, hQ⟩ := h
  refine ⟨_, (pss_cons (ps_if (pt_not (pt_val (pe_fld (pv 0) rfl))) pss_never pss_nil)
    (pss_one (ps_if (pt_cmpR op_gt (pe_fld (pv 0) rfl) (C8.pe_gc rfl e.g_MOST_LOOKS) (nomark _)) pss_never pss_nil))), ?_⟩
  refine ⟨_, rfl, a, _, _, _, _, rfl, ha, e.m_Question.cls, e.f_Question _ (by simp), rfl, true, rfl, ite_no rfl ?_⟩
  refine ⟨_, rfl, a, _, _, _, _, rfl, ha, e.m_Question.cls, e.f_Question _ (by simp), rfl, _, _, rfl, rfl, _, rfl, ite_no (decide_eq_false (by omega)) ?_⟩
  exact hQ
theorem words_small : ∀ (q : Qn) (z : Str), z ∈ q.words → z.length ≤ 4
  | .atom t a b, z, h => by
    simp only [Qn.words, List.mem_cons, List.not_mem_nil, or_false] at h
    rcases h with h | h | h
    · rw [h]; cases t <;> decide +kernel
    · rw [h]; cases a <;> decide +kernel
    · rw [h]; cases b <;> decide +kernel
  | .neg q, z, h => by
    rcases List.mem_cons.mp h with h | h
    · rw [h]; decide +kernel
    · exact words_small q z h
  | .bin o q r, z, h => by
    rcases List.mem_cons.mp h with h | h
    · rw [h]; cases o <;> decide +kernel
    · rcases List.mem_append.mp h with h | h
      · exact words_small q z h
      · exact words_small r z h
  | .look s a q, z, h => by
    rcases List.mem_cons.mp h with h | h
    · rw [h]; cases s <;> decide +kernel
    · rcases List.mem_cons.mp h with h | h
      · rw [h]; cases a <;> decide +kernel
      · exact words_small q z h
theorem sum_small {n : Nat} : ∀ l : List Nat, (∀ x ∈ l, x ≤ n) → l.sum ≤ l.length * n
  | [], _ => by simp
  | x :: r, h => by
    have a := h x List.mem_cons_self
    have b := sum_small r fun y hy => h y (List.mem_cons_of_mem _ hy)
    rw [List.sum_cons, List.length_cons, Nat.succ_mul]
    omega
theorem sc_Question___init__ : FnScope ["self", "root", "items"] ["self", "root"] (defScope (inC 35 0)) := ⟨rfl, rfl, rfl, by decide +kernel, rfl, by decide +kernel, by decide +kernel⟩
def spQInit (K : PySem.W.Frag) (cQ : Addr) : Sp := fun vs H Q _ => ∃ (x dx : Addr) (r : V) (q : Qn), vs = [.ref x, r] ∧ H x = some (.ins cQ dx []) ∧ QAt K H r q ∧ q.size ≤ 40 ∧ q.free = [] ∧
  ∀ H' tx f, SameBut x H H' → H' x = some (.ins cQ dx (quF r tx f q.looks)) → Q .non H'
theorem c_Question (e : Ev w K mg cS cQ cT) : C8.Mak P w K mg base 60 "Question" cQ (spQInit K cQ) [] := by
  have c_items_of := c_items_of (P := P) (base := base) e 59
  have c_free_of := c_free_of (P := P) (base := base) e 59
  have c_looks_of := c_looks_of (P := P) (base := base) e 59
  have cl := e.m_Question.cls
  refine makD e.m_Question (fun _ _ _ _ _ _ us hl => match us, hl with | [_, _], _ => rfl) sc_Question___init__ (fun vs H Q E h => ?_) fun f cdv A outer s H vs Q E hr h => ?_
  · obtain ⟨x, dx, r, q, rfl, _⟩ := h; rfl
  obtain ⟨x, dx, r, q, rfl, hx, hq, hz, hfr, hQ⟩ := h
  have hdp := q.deep_le
  have hwl := q.words_len
  refine ⟨_, (pss_cons (ps_set (i := 2) sc_Question___init__.nd rfl (.inl rfl) (C8.pe_c c_items_of hr (by first | decide | omega) rfl (pa_cons (pv 1) pa_nil)))
    (pss_cons (ps_if (pt_cmpR op_gt (pe_callB call_len_seq rfl e.n_len (by decide +kernel) (pa_cons (pv 2) pa_nil)) (C8.pe_gc rfl e.g_MOST_ITEMS) (nomark _)) pss_never pss_nil)
    (pss_cons (ps_fld (pv 0) (pv 1) rfl)
    (pss_cons (ps_fld (pv 0) (pe_join pe_str (pv 2)) rfl)
    (C8.pss_cut (ps_fld (pv 0) (pe_callTy call_tuple_of rfl e.n_tuple (by decide +kernel) (pa_cons (pe_callB (cr_sortedK rfl (hu64 hr)) rfl e.n_sorted (by decide +kernel) (pa_cons (pe_callTy (cr_setOf rfl (hu64 hr)) rfl e.n_set (by decide +kernel) (pa_cons (C8.pe_c c_free_of hr (by first | decide | omega) rfl (pa_cons (pv 1) pa_nil)) pa_nil)) pa_nil)) pa_nil)) rfl)
    (pss_cons (ps_fld (pv 0) (C8.pe_c c_looks_of hr (by first | decide | omega) rfl (pa_cons (pv 1) pa_nil)) rfl)
    (pss_one (ps_fld (pv 0) (pe_cmpR (op_eqD hr.units) (pe_fld (pv 0) rfl) (pe_tup pa_nil) (nomark _)) rfl)))))))), ?_⟩
  refine ⟨_, rfl, r, q, rfl, hq, by omega, by omega, fun l H1 s1 hl1 => ?_⟩
  refine ⟨_, rfl, l, _, rfl, .inl (.inl (.inl hl1)), _, _, rfl, rfl, _, rfl, ite_no (decide_eq_false (by rw [List.length_map, hwl]; omega)) ?_⟩
  refine ⟨_, rfl, _, rfl, x, cQ, dx, _, rfl, s1 _ _ hx, cl, e.f_Question _ (by simp), (by decide), ?_⟩
  have ne1 : l ≠ x := ne_of hl1 (s1 _ _ hx) (by intro z; cases z)
  have ex := s1 _ _ hx
  -- text
  have hsum : ((q.words.map (·.length)).sum + q.words.length * (" " : Str).length) ≤ 16777216 := by
    have := sum_small (n := 4) (q.words.map (·.length)) fun y hy => by
      obtain ⟨z, hz, rfl⟩ := List.mem_map.mp hy
      exact words_small q z hz
    rw [List.length_map, hwl] at this
    rw [hwl]
    have e1 : (" " : Str).length = 1 := by decide +kernel
    rw [e1]
    omega
  refine ⟨⟨_, rfl⟩, _, rfl, _, l, q.words, rfl, rfl, .inl (.inl (.inl (by rw [upd_ne ne1]; exact hl1))), hsum, ?_⟩
  refine ⟨_, rfl, x, cQ, dx, _, rfl, upd_same, cl, e.f_Question _ (by simp), (show 1 < 1000 by decide), ?_⟩
  -- free
  have b1 : SameBut x H1 (upd (upd H1 x (.ins cQ dx (putF "root" r []))) x (.ins cQ dx (putF "text" (.str (Txt.join " " q.words)) (putF "root" r [])))) := fun b u hb eb => by rw [upd_ne hb, upd_ne hb]; exact eb
  have hxn := b1
  generalize hH2 : upd (upd H1 x (.ins cQ dx (putF "root" r []))) x (.ins cQ dx (putF "text" (.str (Txt.join " " q.words)) (putF "root" r []))) = H2 at b1
  have hx2 : H2 x = some (.ins cQ dx (putF "text" (.str (Txt.join " " q.words)) (putF "root" r []))) := by rw [← hH2]; exact upd_same
  have hq2 : QAt K H2 r q := (hq.to (same_sq s1)).to fun a xs h => by
    rcases h with (h | ⟨o, h⟩) | h
    · exact .inl (.inl (b1 a _ (ne_of h ex (by intro z; cases z)) h))
    · exact .inl (.inr ⟨o, b1 a _ (ne_of h ex (by intro z; cases z)) h⟩)
    · exact .inr h
  refine ⟨fun σ' H' => σ' = [some (.ref x), some r, some (.ref l)] ∧ ∃ t, SameBut x H H' ∧ H' t = some (.tup []) ∧ QAt K H' r q ∧ H' x = some (.ins cQ dx [("root", r), ("text", .str (Txt.join " " q.words)), ("free", .ref t)]), ?_, ?_⟩
  · refine ⟨_, rfl, r, q, rfl, hq2, by omega, by omega, fun l3 H3 s3 _ hl3 => ?_⟩
    rw [hfr] at hl3
    refine ⟨l3, [], rfl, .inl (.inl hl3), (fun p hp => by cases hp), Nat.zero_le _, fun a L ha _ _ hL => ?_⟩
    have hL0 : L = [] := List.length_eq_zero_iff.mp (Nat.le_zero.mp hL)
    subst hL0
    refine ⟨a, [], rfl, upd_same, (fun p hp => by cases hp), (fun d hd => by cases hd), .inr (by decide), fun L' p hperm _ _ _ hp => ?_⟩
    have hL0 : L' = [] := hperm.eq_nil
    subst hL0
    refine ⟨p, [], rfl, .inl ⟨.inl (.inl upd_same), fun t ht => ?_⟩⟩
    have s4 := same2 (o := .tup []) (same2 (same2 s3 ha) hp) ht
    have hx5 := s4 _ _ hx2
    refine ⟨_, rfl, x, cQ, dx, _, rfl, hx5, cl, e.f_Question _ (by simp), (show 2 < 1000 by decide), rfl, t, fun b u hb eb => ?_, ?_, ?_, upd_same⟩
    · rw [upd_ne hb]
      exact s4 b u (b1 b u hb (s1 b u eb))
    · rw [upd_ne (ne_of upd_same hx5 (by intro z; cases z))]
      exact upd_same
    · exact (hq2.to (same_sq s4)).to fun a xs h => by
        rcases h with (h | ⟨o, h⟩) | h
        · exact .inl (.inl (by rw [upd_ne (ne_of h hx5 (by intro z; cases z))]; exact h))
        · exact .inl (.inr ⟨o, by rw [upd_ne (ne_of h hx5 (by intro z; cases z))]; exact h⟩)
        · exact .inr h
  · rintro σ' H5 ⟨rfl, t, b5, ht5, hq5, hx5⟩
    refine ⟨_, rfl, r, q, rfl, hq5, by omega, fun H6 s6 => ?_⟩
    have hx6 := s6 _ _ hx5
    have ht6 := s6 _ _ ht5
    have htx : t ≠ x := ne_of ht5 hx5 (by intro z; cases z)
    refine ⟨_, rfl, x, cQ, dx, _, rfl, hx6, cl, e.f_Question _ (by simp), (show 3 < 1000 by decide), ?_⟩
    refine ⟨_, rfl, x, cQ, dx, _, _, rfl, upd_same, cl, e.f_Question _ (by simp), rfl, Nat.zero_le _, fun p7 hp7 => ?_⟩
    have hp7x : x ≠ p7 := fun z => by rw [← z, upd_same] at hp7; cases hp7
    have hp70 : H6 p7 = none := by rw [upd_ne (Ne.symm hp7x)] at hp7; exact hp7
    refine ⟨.tuple [], .tuple [], .tup (.inl (.inl ?_)) .nil, .tup (.inl (.inl upd_same)) .nil, by decide +kernel, by decide +kernel, ?_⟩
    · rw [upd_ne (ne_of_none ht6 hp70), upd_ne htx]
      exact ht6
    refine ⟨_, rfl, x, cQ, dx, _, rfl, (upd_ne hp7x).trans upd_same, cl, e.f_Question _ (by simp), (show 4 < 1000 by decide), ?_⟩
    refine hQ _ (Txt.join " " q.words) t (fun b u hb eb => ?_) upd_same
    have z1 := s6 b u (b5 b u hb eb)
    rw [upd_ne hb, upd_ne (ne_of_none z1 hp70), upd_ne hb]
    exact z1
/-- Question(root), as its callers see it -/
theorem make_q {H1 : Hp} {r : V} {q : Qn} (hq : QAt K H1 r q) (hz : q.size ≤ 40) (hf : q.free = []) {Q : VK} {E : XK} (h : ∀ x H', Same H1 H' → QuAt K cQ H' (.ref x) q → Q (.ref x) H') :
    ∀ x dx, H1 x = none → H1 dx = none → dx ≠ x → spQInit K cQ (.ref x :: ([r] ++ [])) (upd (upd H1 dx (.own x)) x (.ins cQ dx [])) (fun v H2 => v = .non ∧ Q (.ref x) H2) E := by
  intro x dx hx hdx hne
  have s0 : Same H1 (upd (upd H1 dx (.own x)) x (.ins cQ dx [])) := same2 (new1 hdx) (by rw [upd_ne (Ne.symm hne)]; exact hx)
  refine ⟨x, dx, r, q, rfl, upd_same, hq.to (same_sq s0), hz, hf, fun H' tx f b hx' => ⟨rfl, ?_⟩⟩
  have s1 : Same H1 H' := SameBut.same hx s0 b
  exact h x H' s1 ⟨x, dx, r, tx, f, rfl, hx', hq.to (same_sq s1)⟩
theorem sc_Question_negated : FnScope ["self"] ["self"] (defScope (inC 35 2)) := ⟨rfl, rfl, rfl, by decide +kernel, rfl, by decide +kernel, by decide +kernel⟩
def spNeg (K : PySem.W.Frag) (cQ : Addr) : Sp := fun vs H Q _ => ∃ (v : V) (q : Qn), vs = [v] ∧ QuAt K cQ H v q ∧ q.size < 40 ∧ q.free = [] ∧ ∀ x H', Same H H' → QuAt K cQ H' (.ref x) (.neg q) → Q (.ref x) H'
theorem c_negated (e : Ev w K mg cS cQ cT) : C8.Met P w K mg base 62 cQ "negated" (spNeg K cQ) [] := by
  have c_Question := c_Question (P := P) (base := base) e
  refine metD e.m_Question.cls e.m_negated (fun _ _ _ _ _ _ us hl => match us, hl with | [_], _ => rfl) sc_Question_negated (fun vs H Q E h => ?_) fun f cdv A outer s H vs Q E hr h => ?_
  · obtain ⟨v, _, rfl, _⟩ := h; rfl
  obtain ⟨v, q, rfl, ⟨a, dx, r, tx, fr, rfl, ha, hq⟩, hz, hf, hQ⟩ := h
  refine ⟨_, (pss_one (ps_ret (C8.pe_mk c_Question hr (by first | decide | omega) rfl (pa_cons (pe_tup (pa_cons (C8.pe_gc rfl e.g_NEGATION) (pa_cons (pe_fld (pv 0) rfl) pa_nil))) pa_nil)))), ?_⟩
  refine ⟨_, rfl, a, _, _, _, _, rfl, ha, e.m_Question.cls, e.f_Question _ (by simp), rfl, (by show 2 ≤ sizeLine; decide), fun t ht => ?_⟩
  have s1 := new1 (o := .tup [.str "not", r]) ht
  exact make_q (q := .neg q) ⟨t, r, rfl, .inl (.inl upd_same), hq.to (same_sq s1)⟩ (by simp only [Qn.size]; omega) hf fun x H' s2 hx => hQ x H' (Same.tr s1 s2) hx
def spJoin (K : PySem.W.Frag) (cQ : Addr) (o : Bool) : Sp := fun vs H Q _ => ∃ (v u : V) (q r : Qn), vs = [v, u] ∧ QuAt K cQ H v q ∧ QuAt K cQ H u r ∧ q.size + r.size < 40 ∧ q.free = [] ∧ r.free = [] ∧ ∀ x H', Same H H' → QuAt K cQ H' (.ref x) (.bin o q r) → Q (.ref x) H'
theorem sc_Question_both : FnScope ["self", "other"] ["self", "other"] (defScope (inC 35 3)) := ⟨rfl, rfl, rfl, by decide +kernel, rfl, by decide +kernel, by decide +kernel⟩
theorem c_both (e : Ev w K mg cS cQ cT) : C8.Met P w K mg base 62 cQ "both" (spJoin K cQ false) [] := by
  have c_Question := c_Question (P := P) (base := base) e
  have c_need_question := c_need_question2 (P := P) (base := base) e
  refine metD e.m_Question.cls e.m_both (fun _ _ _ _ _ _ us hl => match us, hl with | [_, _], _ => rfl) sc_Question_both (fun vs H Q E h => ?_) fun f cdv A outer s H vs Q E hr h => ?_
  · obtain ⟨v, u, _, _, rfl, _⟩ := h; rfl
  obtain ⟨v, u, q, r, rfl, ⟨a, dx, qr, tx, fr, rfl, ha, hq⟩, ⟨b, dy, rr, ty, fs, rfl, hb, hr0⟩, hz, hf, hg, hQ⟩ := h
  refine ⟨_, (pss_cons (ps_expr (C8.pe_c c_need_question hr (by first | decide | omega) rfl (pa_cons (pv 1) (pa_cons pe_str pa_nil))))
    (pss_one (ps_ret (C8.pe_mk c_Question hr (by first | decide | omega) rfl (pa_cons (pe_tup (pa_cons pe_str (pa_cons (pe_fld (pv 0) rfl) (pa_cons (pe_fld (pv 1) rfl) pa_nil)))) pa_nil))))), ?_⟩
  refine ⟨_, rfl, b, _, _, _, rfl, hb, ?_⟩
  refine ⟨_, rfl, a, _, _, _, _, rfl, ha, e.m_Question.cls, e.f_Question _ (by simp), rfl, _, rfl, b, _, _, _, _, rfl, hb, e.m_Question.cls, e.f_Question _ (by simp), rfl, (by show 3 ≤ sizeLine; decide), fun t ht => ?_⟩
  have s1 := new1 (o := .tup [.str "and", qr, rr]) ht
  exact make_q (q := .bin false q r) ⟨t, qr, rr, rfl, .inl (.inl upd_same), hq.to (same_sq s1), hr0.to (same_sq s1)⟩ (by simp only [Qn.size]; omega) (by simp [Qn.free, hf, hg]) fun x H' s2 hx => hQ x H' (Same.tr s1 s2) hx
theorem sc_Question_either : FnScope ["self", "other"] ["self", "other"] (defScope (inC 35 4)) := ⟨rfl, rfl, rfl, by decide +kernel, rfl, by decide +kernel, by decide +kernel⟩
theorem c_either (e : Ev w K mg cS cQ cT) : C8.Met P w K mg base 62 cQ "either" (spJoin K cQ true) [] := by
  have c_Question := c_Question (P := P) (base := base) e
  have c_need_question := c_need_question2 (P := P) (base := base) e
  refine metD e.m_Question.cls e.m_either (fun _ _ _ _ _ _ us hl => match us, hl with | [_, _], _ => rfl) sc_Question_either (fun vs H Q E h => ?_) fun f cdv A outer s H vs Q E hr h => ?_
  · obtain ⟨v, u, _, _, rfl, _⟩ := h; rfl
  obtain ⟨v, u, q, r, rfl, ⟨a, dx, qr, tx, fr, rfl, ha, hq⟩, ⟨b, dy, rr, ty, fs, rfl, hb, hr0⟩, hz, hf, hg, hQ⟩ := h
  refine ⟨_, (pss_cons (ps_expr (C8.pe_c c_need_question hr (by first | decide | omega) rfl (pa_cons (pv 1) (pa_cons pe_str pa_nil))))
    (pss_one (ps_ret (C8.pe_mk c_Question hr (by first | decide | omega) rfl (pa_cons (pe_tup (pa_cons pe_str (pa_cons (pe_fld (pv 0) rfl) (pa_cons (pe_fld (pv 1) rfl) pa_nil)))) pa_nil))))), ?_⟩
  refine ⟨_, rfl, b, _, _, _, rfl, hb, ?_⟩
  refine ⟨_, rfl, a, _, _, _, _, rfl, ha, e.m_Question.cls, e.f_Question _ (by simp), rfl, _, rfl, b, _, _, _, _, rfl, hb, e.m_Question.cls, e.f_Question _ (by simp), rfl, (by show 3 ≤ sizeLine; decide), fun t ht => ?_⟩
  have s1 := new1 (o := .tup [.str "or", qr, rr]) ht
  exact make_q (q := .bin true q r) ⟨t, qr, rr, rfl, .inl (.inl upd_same), hq.to (same_sq s1), hr0.to (same_sq s1)⟩ (by simp only [Qn.size]; omega) (by simp [Qn.free, hf, hg]) fun x H' s2 hx => hQ x H' (Same.tr s1 s2) hx
end
end K61

end

section
set_option linter.all false
set_option maxRecDepth 100000
set_option maxHeartbeats 4000000
/-! K61, walk 10: Scan, take_root, Question.read. -/
namespace K61
open PySem PySem.Spec PyProof.Rows L2
section
variable {P : Program} {w : World} {K : PySem.W.Frag} {mg : Str → Option Value} {base : Heap} {cS cQ cT : Addr}
theorem sq_ins {H H' : Hp} {a C dx : Addr} {fs : List (Str × V)} (ha : H a = some (.ins C dx fs)) (s : SameBut a H H') (b : Addr) (xs : List V) (h : SqT K H b xs) : SqT K H' b xs := by
  rcases h with (h | ⟨o, h⟩) | h
  · exact .inl (.inl (s b _ (ne_of h ha (by intro z; cases z)) h))
  · exact .inl (.inr ⟨o, s b _ (ne_of h ha (by intro z; cases z)) h⟩)
  · exact .inr h
def scF (l : Addr) (i : Nat) : List (Str × V) := [("told", .ref l), ("at", .int (i : Int))]
/-- a Scan at a: its words, its place -/
def ScAt (cS : Addr) (H : Hp) (a dx l : Addr) (ws : List Str) (i : Nat) : Prop := H a = some (.ins cS dx (scF l i)) ∧ H l = some (.lst (ws.map V.str)) ∧ ws.length ≤ 1000
theorem ScAt.up {H : Hp} {a dx l : Addr} {ws : List Str} {i : Nat} (h : ScAt cS H a dx l ws i) (j : Nat) : ScAt cS (upd H a (.ins cS dx (scF l j))) a dx l ws j :=
  ⟨upd_same, by rw [upd_ne (ne_of h.2.1 h.1 (by intro z; cases z))]; exact h.2.1, h.2.2⟩
theorem ScAt.same {H H' : Hp} {a dx l : Addr} {ws : List Str} {i : Nat} (h : ScAt cS H a dx l ws i) (s : Same H H') : ScAt cS H' a dx l ws i := ⟨s _ _ h.1, s _ _ h.2.1, h.2.2⟩
theorem sc_Scan___init__ : FnScope ["self", "text"] ["self", "text"] (defScope (inC 18 0)) := ⟨rfl, rfl, rfl, by decide +kernel, rfl, by decide +kernel, by decide +kernel⟩
def spScan (cS : Addr) : Sp := fun vs H Q _ => ∃ (x dx : Addr) (tx : Str), vs = [.ref x, .str tx] ∧ H x = some (.ins cS dx []) ∧ tx.length + 2 ≤ sizeLine ∧ (Txt.split tx " ").length ≤ 1000 ∧ ∀ H' l, SameBut x H H' → ScAt cS H' x dx l (Txt.split tx " ") 0 → Q .non H'
theorem c_Scan (e : Ev w K mg cS cQ cT) : C8.Mak P w K mg base 1 "Scan" cS (spScan cS) [] := by
  have cl := e.m_Scan.cls
  refine makD e.m_Scan (fun _ _ _ _ _ _ us hl => match us, hl with | [_, _], _ => rfl) sc_Scan___init__ (fun vs H Q E h => ?_) fun f cdv A outer s H vs Q E hr h => ?_
  · obtain ⟨x, dx, tx, rfl, _⟩ := h; rfl
  obtain ⟨x, dx, tx, rfl, hx, hz, hw, hQ⟩ := h
  refine ⟨_, (pss_cons (ps_if (pt_not (pt_val (pe_callB call_isi rfl e.n_isinstance (by decide +kernel) (pa_cons (pv 1) (pa_cons (pe_ty (n := "str") e.n_str) pa_nil))))) pss_never pss_nil)
    (pss_cons (ps_fld (pv 0) (pe_split (pv 1) pe_str) rfl)
    (pss_one (ps_fld (pv 0) pe_int rfl)))), ?_⟩
  refine ⟨_, rfl, _, _, _, _, true, rfl, .ty "str", ty_str, kit_ty (by decide +kernel), true, rfl, ite_no rfl ?_⟩
  refine ⟨_, rfl, ⟨_, rfl⟩, _, _, rfl, rfl, by decide +kernel, hz, fun l hl => ?_⟩
  have hlx : x ≠ l := ne_of_none hx hl
  refine ⟨_, rfl, x, cS, dx, _, rfl, (upd_ne hlx).trans hx, cl, e.f_Scan _ (by simp), (by decide), ?_⟩
  refine ⟨_, rfl, x, cS, dx, _, rfl, upd_same, cl, e.f_Scan _ (by simp), (show 1 < 1000 by decide), ?_⟩
  refine hQ _ l (fun b u hb eb => ?_) ⟨upd_same, ?_, hw⟩
  · rw [upd_ne hb, upd_ne hb, upd_ne (ne_of_none eb hl)]
    exact eb
  · rw [upd_ne (Ne.symm hlx), upd_ne (Ne.symm hlx), upd_same]
theorem sc_Scan_is_done : FnScope ["self"] ["self"] (defScope (inC 18 1)) := ⟨rfl, rfl, rfl, by decide +kernel, rfl, by decide +kernel, by decide +kernel⟩
def spDone (cS : Addr) : Sp := fun vs H Q _ => ∃ (a dx l : Addr) (ws : List Str) (i : Nat), vs = [.ref a] ∧ ScAt cS H a dx l ws i ∧ Q (.bl (decide (i = ws.length))) H
theorem c_is_done (e : Ev w K mg cS cQ cT) : C8.Met P w K mg base 1 cS "is_done" (spDone cS) [] := by
  have cl := e.m_Scan.cls
  refine metD cl e.m_is_done (fun _ _ _ _ _ _ us hl => match us, hl with | [_], _ => rfl) sc_Scan_is_done (fun vs H Q E h => ?_) fun f cdv A outer s H vs Q E hr h => ?_
  · obtain ⟨a, dx, l, ws, i, rfl, _⟩ := h; rfl
  obtain ⟨a, dx, l, ws, i, rfl, ⟨h1, h2, h3⟩, hQ⟩ := h
  refine ⟨_, (pss_one (ps_ret (pe_cmpR op_eq (pe_fld (pv 0) rfl) (pe_callB call_len_seq rfl e.n_len (by decide +kernel) (pa_cons (pe_fld (pv 0) rfl) pa_nil)) (nomark _)))), ?_⟩
  refine ⟨_, rfl, a, _, _, _, _, rfl, h1, cl, e.f_Scan _ (by simp), rfl, _, rfl, a, _, _, _, _, rfl, h1, cl, e.f_Scan _ (by simp), rfl, l, _, rfl, .inl (.inl (.inl h2)), rfl, ?_⟩
  have e1 : decide (V.int (i : Int) = V.int ((ws.map V.str).length : Int)) = decide (i = ws.length) := by
    rw [List.length_map]
    by_cases c : i = ws.length
    · rw [decide_eq_true c, decide_eq_true (congrArg (fun n : Nat => V.int (n : Int)) c)]
    · rw [decide_eq_false c]
      exact decide_eq_false fun z => c (by have := V.int.inj z; omega)
  show Q (.bl (decide (V.int (i : Int) = V.int ((ws.map V.str).length : Int)))) H
  rw [e1]
  exact hQ
theorem sc_Scan_ahead : FnScope ["self"] ["self"] (defScope (inC 18 2)) := ⟨rfl, rfl, rfl, by decide +kernel, rfl, by decide +kernel, by decide +kernel⟩
def spAhead (cS : Addr) : Sp := fun vs H Q _ => ∃ (a dx l : Addr) (ws : List Str) (i : Nat) (z : Str), vs = [.ref a] ∧ ScAt cS H a dx l ws i ∧ ws[i]? = some z ∧ Q (.str z) H
theorem c_ahead (e : Ev w K mg cS cQ cT) : C8.Met P w K mg base 2 cS "ahead" (spAhead cS) [] := by
  have cl := e.m_Scan.cls
  have c_is_done := c_is_done (P := P) (base := base) e
  refine metD cl e.m_ahead (fun _ _ _ _ _ _ us hl => match us, hl with | [_], _ => rfl) sc_Scan_ahead (fun vs H Q E h => ?_) fun f cdv A outer s H vs Q E hr h => ?_
  · obtain ⟨a, dx, l, ws, i, z, rfl, _⟩ := h; rfl
  obtain ⟨a, dx, l, ws, i, z, rfl, hS, hz, hQ⟩ := h
  have hi : i < ws.length := (List.getElem?_eq_some_iff.mp hz).1
  obtain ⟨h1, h2, h3⟩ := id hS
  refine ⟨_, (pss_one (ps_ret (pe_ifExp (pt_val (C8.pe_mt0 (pl := _) c_is_done hr (by first | decide | omega) (pv 0))) pe_non (pe_ix ix_list (pe_fld (pv 0) rfl) (pe_fld (pv 0) rfl) (fun _ _ => rfl))))), ?_⟩
  refine ⟨_, rfl, a, _, _, rfl, h1, rfl, a, dx, l, ws, i, rfl, hS, _, rfl, ite_no (decide_eq_false (by omega)) ?_⟩
  refine ⟨_, rfl, a, _, _, _, _, rfl, h1, cl, e.f_Scan _ (by simp), rfl, _, rfl, a, _, _, _, _, rfl, h1, cl, e.f_Scan _ (by simp), rfl, l, _, _, .str z, rfl, rfl, .inl (.inl h2), atN (by rw [List.getElem?_map, hz] <;> rfl), hQ⟩
theorem sc_Scan_take : FnScope ["self"] ["self"] (defScope (inC 18 5)) := ⟨rfl, rfl, rfl, by decide +kernel, rfl, by decide +kernel, by decide +kernel⟩
def spTake (cS : Addr) : Sp := fun vs H Q _ => ∃ (a dx l : Addr) (ws : List Str) (i : Nat) (z : Str), vs = [.ref a] ∧ ScAt cS H a dx l ws i ∧ ws[i]? = some z ∧ Q (.str z) (upd H a (.ins cS dx (scF l (i + 1))))
theorem c_take (e : Ev w K mg cS cQ cT) : C8.Met P w K mg base 2 cS "take" (spTake cS) [] := by
  have cl := e.m_Scan.cls
  have c_is_done := c_is_done (P := P) (base := base) e
  refine metD cl e.m_take (fun _ _ _ _ _ _ us hl => match us, hl with | [_], _ => rfl) sc_Scan_take (fun vs H Q E h => ?_) fun f cdv A outer s H vs Q E hr h => ?_
  · obtain ⟨a, dx, l, ws, i, z, rfl, _⟩ := h; rfl
  obtain ⟨a, dx, l, ws, i, z, rfl, hS, hz, hQ⟩ := h
  have hi : i < ws.length := (List.getElem?_eq_some_iff.mp hz).1
  obtain ⟨h1, h2, h3⟩ := id hS
  obtain ⟨u1, u2, u3⟩ := hS.up (i + 1)
  refine ⟨_, (pss_cons (ps_if (pt_val (C8.pe_mt0 (pl := _) c_is_done hr (by first | decide | omega) (pv 0))) pss_never pss_nil)
    (pss_cons (ps_fld (pv 0) (pe_op op_add (pe_fld (pv 0) rfl) pe_int) rfl)
    (pss_one (ps_ret (pe_ix ix_list (pe_fld (pv 0) rfl) (pe_op op_sub (pe_fld (pv 0) rfl) pe_int) (fun _ _ => rfl)))))), ?_⟩
  refine ⟨_, rfl, a, _, _, rfl, h1, rfl, a, dx, l, ws, i, rfl, hS, _, rfl, ite_no (decide_eq_false (by omega)) ?_⟩
  have e1 : ((i : Int) + 1) = ((i + 1 : Nat) : Int) := by omega
  refine ⟨_, rfl, a, _, _, _, _, rfl, h1, cl, e.f_Scan _ (by simp), rfl, _, _, rfl, rfl, _, rfl, a, cS, dx, _, rfl, h1, cl, e.f_Scan _ (by simp), (by show 2 < 1000; decide), ?_⟩
  have e2 : putF "at" (.int ((i : Int) + 1)) (scF l i) = scF l (i + 1) := by rw [e1] <;> rfl
  rw [e2]
  refine ⟨_, rfl, a, _, _, _, _, rfl, u1, cl, e.f_Scan _ (by simp), rfl, _, rfl, a, _, _, _, _, rfl, u1, cl, e.f_Scan _ (by simp), rfl, _, _, rfl, rfl, l, _, _, .str z, rfl, rfl, .inl (.inl u2), ?_, hQ⟩
  have e3 : ((i + 1 : Nat) : Int) - 1 = ((i : Nat) : Int) := by omega
  rw [e3]
  exact atN (by rw [List.getElem?_map, hz] <;> rfl)
theorem sc_Scan_take_one_of : FnScope ["self", "wanted"] ["self", "wanted"] (defScope (inC 18 7)) := ⟨rfl, rfl, rfl, by decide +kernel, rfl, by decide +kernel, by decide +kernel⟩
def spTakeOne (K : PySem.W.Frag) (cS : Addr) : Sp := fun vs H Q _ => ∃ (a dx l n : Addr) (ns ws : List Str) (i : Nat) (z : Str), vs = [.ref a, .ref n] ∧ ScAt cS H a dx l ws i ∧ SqT K H n (ns.map V.str) ∧ ws[i]? = some z ∧ z ∈ ns ∧ Q (.str z) (upd H a (.ins cS dx (scF l (i + 1))))
theorem c_take_one_of (e : Ev w K mg cS cQ cT) : C8.Met P w K mg base 3 cS "take_one_of" (spTakeOne K cS) [] := by
  have cl := e.m_Scan.cls
  have c_is_done := c_is_done (P := P) (base := base) e
  have c_ahead := c_ahead (P := P) (base := base) e
  have c_take := c_take (P := P) (base := base) e
  refine metD cl e.m_take_one_of (fun _ _ _ _ _ _ us hl => match us, hl with | [_, _], _ => rfl) sc_Scan_take_one_of (fun vs H Q E h => ?_) fun f cdv A outer s H vs Q E hr h => ?_
  · obtain ⟨a, dx, l, n, ns, ws, i, z, rfl, _⟩ := h; rfl
  obtain ⟨a, dx, l, n, ns, ws, i, z, rfl, hS, hn, hz, hm, hQ⟩ := h
  have hi : i < ws.length := (List.getElem?_eq_some_iff.mp hz).1
  obtain ⟨h1, h2, h3⟩ := id hS
  refine ⟨_, (pss_cons (ps_if (PW.pt (pw_or (pt_val (C8.pe_mt0 (pl := _) c_is_done hr (by first | decide | omega) (pv 0))) (pw_or1 (pt_cmpR op_notIn_seq (C8.pe_mt0 (pl := _) c_ahead hr (by first | decide | omega) (pv 0)) (pv 1) rfl)))) pss_never pss_nil)
    (pss_one (ps_ret (C8.pe_mt0 (pl := _) c_take hr (by first | decide | omega) (pv 0))))), ?_⟩
  refine ⟨_, rfl, a, _, _, rfl, h1, rfl, a, dx, l, ws, i, rfl, hS, _, rfl, ?_⟩
  rw [decide_eq_false (by omega : ¬ i = ws.length)]
  refine ite_no rfl ?_
  have hin : inV (.str z) (ns.map V.str) = true := by
    rw [inV_str]
    exact List.any_eq_true.mpr ⟨z, hm, by simp⟩
  refine ⟨_, rfl, a, _, _, rfl, h1, rfl, a, dx, l, ws, i, z, rfl, hS, hz, _, rfl, n, _, rfl, .inr hn, rfl, ?_, _, rfl, ite_no ?_ ?_⟩
  · rw [List.all_eq_true]
    intro v hv
    obtain ⟨y, _, rfl⟩ := List.mem_map.mp hv
    rfl
  · show (!inV (.str z) (ns.map V.str)) = false
    rw [hin]
    rfl
  · exact ⟨_, rfl, a, _, _, rfl, h1, rfl, a, dx, l, ws, i, z, rfl, hS, hz, hQ⟩
theorem sc_Scan_finish : FnScope ["self"] ["self"] (defScope (inC 18 10)) := ⟨rfl, rfl, rfl, by decide +kernel, rfl, by decide +kernel, by decide +kernel⟩
def spFinish (cS : Addr) : Sp := fun vs H Q _ => ∃ (a dx l : Addr) (ws : List Str), vs = [.ref a] ∧ ScAt cS H a dx l ws ws.length ∧ Q .non H
theorem c_finish (e : Ev w K mg cS cQ cT) : C8.Met P w K mg base 2 cS "finish" (spFinish cS) [] := by
  have cl := e.m_Scan.cls
  have c_is_done := c_is_done (P := P) (base := base) e
  refine metD cl e.m_finish (fun _ _ _ _ _ _ us hl => match us, hl with | [_], _ => rfl) sc_Scan_finish (fun vs H Q E h => ?_) fun f cdv A outer s H vs Q E hr h => ?_
  · obtain ⟨a, dx, l, ws, rfl, _⟩ := h; rfl
  obtain ⟨a, dx, l, ws, rfl, hS, hQ⟩ := h
  obtain ⟨h1, h2, h3⟩ := id hS
  refine ⟨_, (pss_one (ps_if (pt_not (pt_val (C8.pe_mt0 (pl := _) c_is_done hr (by first | decide | omega) (pv 0)))) pss_never pss_nil)), ?_⟩
  exact ⟨_, rfl, a, _, _, rfl, h1, rfl, a, dx, l, ws, _, rfl, hS, _, rfl, ite_no (by simp) hQ⟩
end
end K61

end

section
set_option linter.all false
set_option maxRecDepth 100000
set_option maxHeartbeats 4000000
/-! K61, walk 11: take_root, Question.read. -/
namespace K61
open PySem PySem.Spec PyProof.Rows L2
section
variable {P : Program} {w : World} {K : PySem.W.Frag} {mg : Str → Option Value} {base : Heap} {cS cQ cT : Addr}
theorem drop_get {α : Type} {l r : List α} {i : Nat} {x : α} (h : l.drop i = x :: r) : l[i]? = some x ∧ l.drop (i + 1) = r := by
  have hi : i < l.length := by
    rcases Nat.lt_or_ge i l.length with c | c
    · exact c
    · rw [List.drop_eq_nil_of_le c] at h; cases h
  rw [List.drop_eq_getElem_cons hi] at h
  injection h with h1 h2
  exact ⟨by rw [List.getElem?_eq_getElem hi, h1], h2⟩
theorem drop_app {α : Type} {l a r : List α} {i : Nat} (h : l.drop i = a ++ r) : l.drop (i + a.length) = r := by
  rw [← List.drop_drop, h, List.drop_left]
theorem ScAt.but {H H' : Hp} {a dx l : Addr} {ws : List Str} {i : Nat} (h : ScAt cS H a dx l ws i) (s : SameBut a H H') (hl : H' a = some (.ins cS dx (scF l i))) : ScAt cS H' a dx l ws i :=
  ⟨hl, s _ _ (ne_of h.2.1 h.1 (by intro z; cases z)) h.2.1, h.2.2⟩
theorem sc_take_root : FnScope ["scan", "behind", "word", "needed", "one", "name"] ["scan", "behind"] (defScope (top 31)) := ⟨rfl, rfl, rfl, by decide +kernel, rfl, by decide +kernel, by decide +kernel⟩
def spRoot (K : PySem.W.Frag) (cS : Addr) (k : Nat) : Sp := fun vs H Q _ => ∃ (a dx l : Addr) (ws rest : List Str) (i b : Nat) (q : Qn), vs = [.ref a, .int (b : Int)] ∧ ScAt cS H a dx l ws i ∧ ws.drop i = q.words ++ rest ∧ i + q.size + b ≤ 40 ∧ q.deep + 3 ≤ k ∧
  ∀ r H', SameBut a H H' → ScAt cS H' a dx l ws (i + q.size) → QAt K H' r q → Q r H'
theorem b_take_root : BindOk "take_root" "take_root" (top 31) ["scan", "behind"] := fun _ _ _ _ _ _ us hl => match us, hl with | [_, _], _ => rfl
theorem s_take_root {k : Nat} (e : Ev w K mg cS cQ cT) (c_take_root : C8.Cal P w K mg base k "take_root" (spRoot K cS k) []) : C8.Cal P w K mg base (k + 1) "take_root" (spRoot K cS (k + 1)) [] := by
  have cl := e.m_Scan.cls
  have c_ahead := c_ahead (P := P) (base := base) e
  have c_take := c_take (P := P) (base := base) e
  have c_take_one_of := c_take_one_of (P := P) (base := base) e
  obtain ⟨aP, hP, tP⟩ := e.t_PLAIN
  obtain ⟨aL, hL, tL⟩ := e.t_LOOKS
  obtain ⟨aJ, hJ, tJ⟩ := e.t_JOINED
  obtain ⟨aN, hN, tN⟩ := e.t_NAMES
  obtain ⟨aD, es, nn, hD, dN, hval⟩ := e.d_NEEDED
  have g_PLAIN : GV mg "PLAIN" (.ref aP) := ⟨_, hP, rfl⟩
  have g_LOOKS : GV mg "LOOKS" (.ref aL) := ⟨_, hL, rfl⟩
  have g_JOINED : GV mg "JOINED" (.ref aJ) := ⟨_, hJ, rfl⟩
  have g_NAMES : GV mg "NAMES" (.ref aN) := ⟨_, hN, rfl⟩
  have g_NEEDED : GV mg "NEEDED" (.ref aD) := ⟨_, hD, rfl⟩
  have nmIn : ∀ a : Nm, nmS a ∈ (["x", "y", "z"] : List Str) := fun a => by cases a <;> simp [nmS]
  refine calD e.d_take_root b_take_root sc_take_root (fun vs H Q E h => ?_) fun f cdv A outer s H vs Q E hr h => ?_
  · obtain ⟨a, dx, l, ws, rest, i, b, q, rfl, _⟩ := h; rfl
  obtain ⟨a, dx, l, ws, rest, i, b, q, rfl, hS, hws, hz, hd, hQ⟩ := h
  have hdp := q.deep_pos
  have h3 : 3 ≤ k := by omega
  obtain ⟨h1, h2, hw⟩ := id hS
  refine ⟨_, (pss_cons (ps_set (i := 2) sc_take_root.nd rfl (.inl rfl) (C8.pe_mt0 (pl := _) c_ahead hr (by first | decide | omega) (pv 0)))
    (pss_cons (ps_set (i := 3) sc_take_root.nd rfl (.inl rfl) (pe_kget dN (C8.pe_gc rfl g_NEEDED) (pv 2) (C8.pe_gc rfl e.g_MOST_ITEMS) ⟨rfl, rfl, rfl, rfl⟩))
    (pss_cons (ps_if (pt_cmpR op_gt (pe_op op_add (pe_op op_add (pe_op op_add (pe_fld (pv 0) rfl) pe_int) (pv 3)) (pv 1)) (C8.pe_gc rfl e.g_MOST_ITEMS) (nomark _)) pss_never pss_nil)
    (pss_cons (ps_expr (C8.pe_mt0 (pl := _) c_take hr (by first | decide | omega) (pv 0)))
    (pss_cons (ps_if (pt_cmpR op_in_seq (pv 2) (C8.pe_gc rfl g_PLAIN) rfl) (pss_cons (ps_set (i := 4) sc_take_root.nd rfl (.inl rfl) (C8.pe_mt (pl := _) c_take_one_of hr (by first | decide | omega) (pv 0) (pa_cons (C8.pe_gc rfl g_NAMES) pa_nil)))
      (pss_one (ps_ret (pe_tup (pa_cons (pv 2) (pa_cons (pv 4) (pa_cons (C8.pe_mt (pl := _) c_take_one_of hr (by first | decide | omega) (pv 0) (pa_cons (C8.pe_gc rfl g_NAMES) pa_nil)) pa_nil))))))) pss_nil)
    (pss_cons (ps_if (pt_cmpR op_in_seq (pv 2) (C8.pe_gc rfl g_LOOKS) rfl) (pss_cons (ps_set (i := 5) sc_take_root.nd rfl (.inl rfl) (C8.pe_mt (pl := _) c_take_one_of hr (by first | decide | omega) (pv 0) (pa_cons (C8.pe_gc rfl g_NAMES) pa_nil)))
      (pss_one (ps_ret (pe_tup (pa_cons (pv 2) (pa_cons (pv 5) (pa_cons (C8.pe_c c_take_root hr (by first | decide | omega) rfl (pa_cons (pv 0) (pa_cons (pv 1) pa_nil))) pa_nil))))))) pss_nil)
    (pss_cons (ps_if (pt_cmpR op_in_seq (pv 2) (C8.pe_gc rfl g_JOINED) rfl) (pss_cons (ps_set (i := 4) sc_take_root.nd rfl (.inl rfl) (C8.pe_c c_take_root hr (by first | decide | omega) rfl (pa_cons (pv 0) (pa_cons (pe_op op_add (pv 1) (C8.pe_gc rfl e.g_LEAST_ITEMS)) pa_nil))))
      (pss_one (ps_ret (pe_tup (pa_cons (pv 2) (pa_cons (pv 4) (pa_cons (C8.pe_c c_take_root hr (by first | decide | omega) rfl (pa_cons (pv 0) (pa_cons (pv 1) pa_nil))) pa_nil))))))) pss_nil)
    (pss_one (ps_ret (pe_tup (pa_cons (pv 2) (pa_cons (C8.pe_c c_take_root hr (by first | decide | omega) rfl (pa_cons (pv 0) (pa_cons (pv 1) pa_nil))) pa_nil)))))))))))), ?_⟩
  -- the first word, how many it needs
  obtain ⟨z0, tl, n0, hw0, hn0, hle⟩ : ∃ (z : Str) (tl : List Str) (n : Int), q.words = z :: tl ∧ (z, n) ∈ [(("tied" : Str), (2 : Int)), ("same", 2), ("not", 3), ("and", 6), ("or", 6), ("some", 4), ("all", 4)] ∧ 1 + n ≤ q.size := by
    cases q with
    | atom t a b => exact ⟨atS t, _, 2, rfl, by cases t <;> simp [atS], by simp [Qn.size]⟩
    | neg q => exact ⟨"not", _, 3, rfl, by simp, by have := q.size_ge; simp only [Qn.size]; omega⟩
    | bin o q r => exact ⟨binS o, _, 6, rfl, by cases o <;> simp [binS], by have := q.size_ge; have := r.size_ge; simp only [Qn.size]; omega⟩
    | look s a q => exact ⟨lookS s, _, 4, rfl, by cases s <;> simp [lookS], by have := q.size_ge; simp only [Qn.size]; omega⟩
  obtain ⟨hg0, hdr0⟩ := drop_get (l := ws) (i := i) (x := z0) (r := tl ++ rest) (by rw [hws, hw0] <;> rfl)
  obtain ⟨tk, hnk⟩ := hval _ _ hn0
  refine ⟨_, rfl, a, _, _, rfl, h1, rfl, a, dx, l, ws, i, z0, rfl, hS, hg0, ?_⟩
  refine ⟨rfl, _, rfl, z0, _, .int n0, rfl, hnk, ⟨tk, rfl⟩, ?_⟩
  refine ⟨_, rfl, a, _, _, _, _, rfl, h1, cl, e.f_Scan _ (by simp), rfl, _, _, rfl, rfl, _, rfl, _, _, rfl, rfl, _, rfl, _, _, rfl, rfl, _, _, rfl, rfl, _, rfl, ite_no (decide_eq_false (by omega)) ?_⟩
  refine ⟨_, rfl, a, _, _, rfl, h1, rfl, a, dx, l, ws, i, z0, rfl, hS, hg0, ?_⟩
  have hS1 := hS.up (i + 1)
  have b1 : SameBut a H (upd H a (.ins cS dx (scF l (i + 1)))) := .upd
  generalize hH1 : upd H a (.ins cS dx (scF l (i + 1))) = H1 at hS1 b1
  clear hH1
  cases q with
  | atom t x y =>
    cases hw0
    obtain ⟨hg1, hdr1⟩ := drop_get (l := ws) (i := i + 1) (x := nmS x) (r := nmS y :: rest) hdr0
    obtain ⟨hg2, hdr2⟩ := drop_get hdr1
    refine ⟨_, rfl, aP, _, rfl, .inr (tP _), rfl, rfl, _, rfl, ite_yes (by cases t <;> decide +kernel) ?_⟩
    refine ⟨_, rfl, a, _, _, rfl, hS1.1, rfl, a, dx, l, aN, ["x", "y", "z"], ws, i + 1, nmS x, rfl, hS1, tN _, hg1, nmIn x, ?_⟩
    have hS2 := hS1.up (i + 1 + 1)
    have b2 : SameBut a H1 (upd H1 a (.ins cS dx (scF l (i + 1 + 1)))) := .upd
    refine ⟨_, rfl, _, rfl, _, rfl, a, _, _, rfl, hS2.1, rfl, a, dx, l, aN, ["x", "y", "z"], ws, i + 1 + 1, nmS y, rfl, hS2, tN _, hg2, nmIn y, (by show 3 ≤ sizeLine; decide), fun t' ht => ?_⟩
    have hS3 := hS2.up (i + 1 + 1 + 1)
    have b3 := SameBut.trans (SameBut.trans b1 b2) (.upd (p := a) (o := .ins cS dx (scF l (i + 1 + 1 + 1))))
    exact hQ _ _ (SameBut.trans b3 (Same.but (new1 ht))) (hS3.same (new1 ht)) ⟨t', rfl, .inl (.inl upd_same)⟩
  | neg q =>
    cases hw0
    simp only [Qn.deep] at hd
    simp only [Qn.size] at hz hQ
    refine ⟨_, rfl, aP, _, rfl, .inr (tP _), rfl, rfl, _, rfl, ite_no (by decide +kernel) ?_⟩
    refine ⟨_, rfl, aL, _, rfl, .inr (tL _), rfl, rfl, _, rfl, ite_no (by decide +kernel) ?_⟩
    refine ⟨_, rfl, aJ, _, rfl, .inr (tJ _), rfl, rfl, _, rfl, ite_no (by decide +kernel) ?_⟩
    refine ⟨_, rfl, _, rfl, _, rfl, a, dx, l, ws, rest, i + 1, b, q, rfl, hS1, hdr0, by omega, by omega, fun r H2 b2 hS2 hq2 => ⟨(by show 2 ≤ sizeLine; decide), fun t ht => ?_⟩⟩
    have ea : i + 1 + q.size = i + (1 + q.size) := by omega
    rw [ea] at hS2
    exact hQ _ _ (SameBut.trans (SameBut.trans b1 b2) (Same.but (new1 ht))) (hS2.same (new1 ht)) ⟨t, r, rfl, .inl (.inl upd_same), hq2.to (same_sq (new1 ht))⟩
  | bin o q1 q2 =>
    cases hw0
    simp only [Qn.deep] at hd
    simp only [Qn.size] at hz hQ
    have g1 := q1.size_ge
    have g2 := q2.size_ge
    refine ⟨_, rfl, aP, _, rfl, .inr (tP _), rfl, rfl, _, rfl, ite_no (by cases o <;> decide +kernel) ?_⟩
    refine ⟨_, rfl, aL, _, rfl, .inr (tL _), rfl, rfl, _, rfl, ite_no (by cases o <;> decide +kernel) ?_⟩
    refine ⟨_, rfl, aJ, _, rfl, .inr (tJ _), rfl, rfl, _, rfl, ite_yes (by cases o <;> decide +kernel) ?_⟩
    have hdr1 : ws.drop (i + 1) = q1.words ++ (q2.words ++ rest) := by rw [hdr0, List.append_assoc]
    refine ⟨_, rfl, _, rfl, _, _, rfl, rfl, a, dx, l, ws, q2.words ++ rest, i + 1, b + 3, q1, rfl, hS1, hdr1, by omega, by omega, fun r1 H2 b2 hS2 hq2 => ?_⟩
    have hdr2 : ws.drop (i + 1 + q1.size) = q2.words ++ rest := by
      have := drop_app hdr1
      rwa [q1.words_len] at this
    refine ⟨_, rfl, _, rfl, _, rfl, _, rfl, a, dx, l, ws, rest, i + 1 + q1.size, b, q2, rfl, hS2, hdr2, by omega, by omega, fun r2 H3 b3 hS3 hq3 => ⟨(by show 3 ≤ sizeLine; decide), fun t ht => ?_⟩⟩
    have ea : i + 1 + q1.size + q2.size = i + (1 + q1.size + q2.size) := by omega
    rw [ea] at hS3
    exact hQ _ _ (SameBut.trans (SameBut.trans (SameBut.trans b1 b2) b3) (Same.but (new1 ht))) (hS3.same (new1 ht)) ⟨t, r1, r2, rfl, .inl (.inl upd_same), (hq2.to (sq_ins hS2.1 b3)).to (same_sq (new1 ht)), hq3.to (same_sq (new1 ht))⟩
  | look s x q =>
    cases hw0
    simp only [Qn.deep] at hd
    simp only [Qn.size] at hz hQ
    obtain ⟨hg1, hdr1⟩ := drop_get (l := ws) (i := i + 1) (x := nmS x) (r := q.words ++ rest) hdr0
    refine ⟨_, rfl, aP, _, rfl, .inr (tP _), rfl, rfl, _, rfl, ite_no (by cases s <;> decide +kernel) ?_⟩
    refine ⟨_, rfl, aL, _, rfl, .inr (tL _), rfl, rfl, _, rfl, ite_yes (by cases s <;> decide +kernel) ?_⟩
    refine ⟨_, rfl, a, _, _, rfl, hS1.1, rfl, a, dx, l, aN, ["x", "y", "z"], ws, i + 1, nmS x, rfl, hS1, tN _, hg1, nmIn x, ?_⟩
    have hS2 := hS1.up (i + 1 + 1)
    have b2 : SameBut a H1 (upd H1 a (.ins cS dx (scF l (i + 1 + 1)))) := .upd
    refine ⟨_, rfl, _, rfl, _, rfl, _, rfl, a, dx, l, ws, rest, i + 1 + 1, b, q, rfl, hS2, hdr1, by omega, by omega, fun r H3 b3 hS3 hq3 => ⟨(by show 3 ≤ sizeLine; decide), fun t ht => ?_⟩⟩
    have ea : i + 1 + 1 + q.size = i + (2 + q.size) := by omega
    rw [ea] at hS3
    exact hQ _ _ (SameBut.trans (SameBut.trans (SameBut.trans b1 b2) b3) (Same.but (new1 ht))) (hS3.same (new1 ht)) ⟨t, r, rfl, .inl (.inl upd_same), hq3.to (same_sq (new1 ht))⟩
theorem c_take_root (e : Ev w K mg cS cQ cT) : ∀ n, C8.Cal P w K mg base n "take_root" (spRoot K cS n) []
  | 0 => calNone e.d_take_root b_take_root fun vs H Q E ⟨_, _, _, _, _, _, _, _, _, _, _, _, h, _⟩ => by omega
  | n + 1 => s_take_root e (c_take_root e n)
theorem sc_Question_read : FnScope ["text", "scan", "root"] ["text"] (defScope (inC 35 1)) := ⟨rfl, rfl, rfl, by decide +kernel, rfl, by decide +kernel, by decide +kernel⟩
def spRead (K : PySem.W.Frag) (cQ : Addr) : Sp := fun vs H Q _ => ∃ (tx : Str) (q : Qn), vs = [.str tx] ∧ Txt.split tx " " = q.words ∧ tx.length + 2 ≤ sizeLine ∧ q.size ≤ 40 ∧ q.free = [] ∧ ∀ x H', Same H H' → QuAt K cQ H' (.ref x) q → Q (.ref x) H'
theorem read_ok (e : Ev w K mg cS cQ cT) {f : Addr} {fd : FuncData} (F : FnAt K "read" "Question.read" (inC 35 1) [] f fd) : FnOk P w K mg base C8.CX0 62 f fd ["text"] (spRead K cQ) := by
  have c_Scan := c_Scan (P := P) (base := base) e
  have c_take_root := c_take_root (P := P) (base := base) e 60
  have c_finish := c_finish (P := P) (base := base) e
  have c_Question := c_Question (P := P) (base := base) e
  refine fnD F sc_Question_read (fun vs H Q E h => ?_) fun f cdv A outer s H vs Q E hr h => ?_
  · obtain ⟨tx, _, rfl, _⟩ := h; rfl
  obtain ⟨tx, q, rfl, hsp, hz, hq, hf, hQ⟩ := h
  have hwl := q.words_len
  have hdl := q.deep_le
  refine ⟨_, (pss_cons (ps_set (i := 1) sc_Question_read.nd rfl (.inl rfl) (C8.pe_mk c_Scan hr (by first | decide | omega) rfl (pa_cons (pv 0) pa_nil)))
    (pss_cons (ps_set (i := 2) sc_Question_read.nd rfl (.inl rfl) (C8.pe_c c_take_root hr (by first | decide | omega) rfl (pa_cons (pv 1) (pa_cons pe_int pa_nil))))
    (pss_cons (ps_expr (C8.pe_mt0 (pl := _) c_finish hr (by first | decide | omega) (pv 1)))
    (pss_one (ps_ret (C8.pe_mk c_Question hr (by first | decide | omega) rfl (pa_cons (pv 2) pa_nil))))))), ?_⟩
  refine ⟨_, rfl, fun x dx hx hdx hne => ?_⟩
  have s0 : Same H (upd (upd H dx (.own x)) x (.ins cS dx [])) := same2 (new1 hdx) (by rw [upd_ne (Ne.symm hne)]; exact hx)
  refine ⟨x, dx, tx, rfl, upd_same, hz, by rw [hsp, hwl]; omega, fun H1 l b1 hS1 => ⟨rfl, ?_⟩⟩
  rw [hsp] at hS1
  have s1 : Same H H1 := SameBut.same hx s0 b1
  refine ⟨_, rfl, x, dx, l, q.words, [], 0, 0, q, rfl, hS1, by rw [List.append_nil] <;> rfl, by omega, by omega, fun r H2 b2 hS2 hq2 => ?_⟩
  have s2 : Same H H2 := SameBut.same hx s1 b2
  have ez : 0 + q.size = q.words.length := by omega
  rw [ez] at hS2
  refine ⟨_, rfl, x, _, _, rfl, hS2.1, rfl, x, dx, l, q.words, rfl, hS2, ?_⟩
  refine ⟨_, rfl, ?_⟩
  exact make_q hq2 hq hf fun y H3 s3 hy => hQ y H3 (Same.tr s2 s3) hy
end
end K61

end

section
set_option linter.all false
set_option maxRecDepth 100000
set_option maxHeartbeats 4000000
/-! K61, walk 12: Town. -/
namespace K61
open PySem PySem.Spec PyProof.Rows L2
section
variable {P : Program} {w : World} {K : PySem.W.Frag} {mg : Str → Option Value} {base : Heap} {cS cQ cT : Addr}
theorem sc_is_pair : FnScope ["value", "things", "one", "other"] ["value", "things"] (defScope (top 39)) := ⟨rfl, rfl, rfl, by decide +kernel, rfl, by decide +kernel, by decide +kernel⟩
def spIsPair (K : PySem.W.Frag) : Sp := fun vs H Q _ => ∃ (v : V) (p : Nat × Nat) (n : Nat), vs = [v, nV n] ∧ Dp K H v (prD p) ∧ p.1 ≠ p.2 ∧ p.1 < n ∧ p.2 < n ∧ ∀ H', Same H H' → Q (.bl true) H'
theorem c_is_pair (e : Ev w K mg cS cQ cT) : C8.Cal P w K mg base 3 "is_pair" (spIsPair K) [] := by
  have c_are_integers := c_are_integers (P := P) (base := base) e
  refine calD e.d_is_pair (fun _ _ _ _ _ _ us hl => match us, hl with | [_, _], _ => rfl) sc_is_pair (fun vs H Q E h => ?_) fun f cdv A outer s H vs Q E hr h => ?_
  · obtain ⟨v, p, n, rfl, _⟩ := h; rfl
  obtain ⟨v, p, n, rfl, hv, hne, h1, h2, hQ⟩ := h
  obtain ⟨a, rfl, ha⟩ := pr_at hv
  refine ⟨_, (pss_cons (ps_if (PW.pt (pw_or (pt_not (pt_val (C8.pe_c c_are_integers hr (by first | decide | omega) rfl (pa_cons (pv 0) pa_nil)))) (pw_or1 (pt_cmpR op_ne (pe_callB call_len_seq rfl e.n_len (by decide +kernel) (pa_cons (pv 0) pa_nil)) pe_int (nomark _))))) (pss_one (ps_ret pe_bl)) pss_nil)
    (pss_cons (ps_asg (pv 0) (pg_tup rfl (pgs_cons (pg_name (i := 2) sc_is_pair.nd rfl (.inl rfl)) (pgs_cons (pg_name (i := 3) sc_is_pair.nd rfl (.inl rfl)) pgs_nil))))
    (pss_one (ps_ret (pe_and (pe_cmpR op_ne (pv 2) (pv 3) (nomark _)) (pe_and (pe_chain op_le op_lt pe_int (pv 2) (pv 1)) (pe_one (pe_chain op_le op_lt pe_int (pv 3) (pv 1))))))))), ?_⟩
  refine ⟨_, rfl, a, [(p.1 : Int), (p.2 : Int)], rfl, ha, by simp, fun H1 s1 => ⟨true, rfl, ite_no rfl ?_⟩⟩
  refine ⟨_, rfl, a, _, rfl, .inr (sqT s1 ha), rfl, _, rfl, ite_no rfl ?_⟩
  refine ⟨_, rfl, a, _, rfl, sqT s1 ha, rfl, _, _, rfl, _, _, rfl, rfl, ?_⟩
  have e1 : (!decide (nV p.1 = nV p.2)) = true := by
    rw [decide_eq_false fun z => hne (by have := V.int.inj z; omega)]
    rfl
  refine ⟨_, rfl, _, rfl, rfl, true, congrArg V.bl e1, ?_⟩
  rw [if_pos rfl]
  refine ⟨_, rfl, _, _, rfl, rfl, true, congrArg V.bl (decide_eq_true (Int.natCast_nonneg _)), ?_⟩
  refine ⟨_, rfl, _, _, rfl, rfl, true, congrArg V.bl (decide_eq_true (Int.ofNat_lt.mpr h1)), ?_⟩
  rw [if_pos rfl]
  refine ⟨_, rfl, _, _, rfl, rfl, true, congrArg V.bl (decide_eq_true (Int.natCast_nonneg _)), ?_⟩
  refine ⟨_, rfl, _, _, rfl, rfl, ?_⟩
  have e2 : decide ((p.2 : Int) < (n : Int)) = true := decide_eq_true (Int.ofNat_lt.mpr h2)
  show Q (.bl (decide ((p.2 : Int) < (n : Int)))) H1
  rw [e2]
  exact hQ H1 s1
theorem sc_are_pairs : FnScope ["value", "things", "each"] ["value", "things"] (defScope (top 40)) := ⟨rfl, rfl, rfl, by decide +kernel, rfl, by decide +kernel, by decide +kernel⟩
def spArePairs (K : PySem.W.Frag) : Sp := fun vs H Q _ => ∃ (t : Addr) (tys : List V) (ts : List (Nat × Nat)) (n : Nat), vs = [.ref t, nV n] ∧ H t = some (.lst tys) ∧ Each (fun y p => Dp K H y (prD p)) tys ts ∧ ts.length ≤ 1000 ∧ (∀ p ∈ ts, p.1 ≠ p.2 ∧ p.1 < n ∧ p.2 < n) ∧ ∀ H', Same H H' → Q (.bl true) H'
theorem c_are_pairs (e : Ev w K mg cS cQ cT) : C8.Cal P w K mg base 4 "are_pairs" (spArePairs K) [] := by
  have c_is_pair := c_is_pair (P := P) (base := base) e
  refine calD e.d_are_pairs (fun _ _ _ _ _ _ us hl => match us, hl with | [_, _], _ => rfl) sc_are_pairs (fun vs H Q E h => ?_) fun f cdv A outer s H vs Q E hr h => ?_
  · obtain ⟨t, tys, ts, n, rfl, _⟩ := h; rfl
  obtain ⟨t, tys, ts, n, rfl, ht, he, hz, hb, hQ⟩ := h
  have hl := he.1
  refine ⟨_, (pss_one (ps_ret (pe_and (pe_callB call_isiT rfl e.n_isinstance (by decide +kernel) (pa_cons (pv 0) (pa_cons (pe_tup (pa_cons (pe_ty (n := "list") e.n_list) (pa_cons (pe_ty (n := "tuple") e.n_tuple) pa_nil))) pa_nil))) (pe_one (pe_callB (cr_all rfl) rfl e.n_all (by decide +kernel) (pa_cons (pe_lc (own := [("each", 2)]) (tt := tYes) rfl sc_are_pairs.nd (pi_list (pv 0)) (blkOk_by (N := ["value", "things", "each"]) (sc := defScope (top 40)) (by decide +kernel)) (fun _ _ _ _ _ => (pg_name (i := 2) sc_are_pairs.nd rfl (.inl rfl))) (fun _ _ _ _ _ => pts_nil) (fun _ _ _ _ _ => (C8.pe_c c_is_pair hr (by first | decide | omega) rfl (pa_cons (pv 2) (pa_cons (pv 1) pa_nil))))) pa_nil)))))), ?_⟩
  refine ⟨_, rfl, (by show 2 ≤ sizeLine; decide), fun p hp => ?_⟩
  have sm : Same H (upd H p (.tup [.ty "list", .ty "tuple"])) := new1 hp
  have ht1 := sm _ _ ht
  refine ⟨_, p, _, _, _, true, rfl, upd_same, .cons (.ty "list") (.cons (.ty "tuple") .nil), ty_lst (.inl (.inl ht1)), ?_, true, rfl, ?_⟩
  · exact kitAny_cons (kit_ty (b := "list") (r := true) (by decide +kernel)) (fun z => by cases z) fun _ => rfl
  refine ⟨_, rfl, t, rfl, ⟨_, .inl (.inl ht1)⟩, fun D hD => ?_⟩
  refine lc_told (walk_list (xs := tys)) hD (by omega) (List.replicate tys.length (V.bl true)) (List.length_replicate ..) (fun H' s' => .inl (.inl (s' _ _ ht1))) (fun i x y H1 H2 ys Kk hy s1 _ hY hk => ?_) fun H' s1 hD1 => ?_
  · obtain ⟨rfl, hx⟩ := hY
    have e1 : y = .bl true := List.eq_of_mem_replicate (List.mem_of_getElem? hy)
    subst e1
    have hi : i < ts.length := by rw [← hl]; exact (List.getElem?_eq_some_iff.mp hx).1
    have hu := List.getElem?_eq_getElem hi
    obtain ⟨b1, b2, b3⟩ := hb _ (List.mem_of_getElem? hu)
    refine ⟨rfl, _, rfl, _, rfl, x, ts[i], n, rfl, dp_same (Same.tr sm s1) _ _ (he.2 i x _ hx hu), b1, b2, b3, fun H3 s3 => hk _ s3⟩
  · refine ⟨D, List.replicate tys.length true, rfl, .inl (.inl (by rw [hD1, List.map_replicate])), ?_⟩
    show Q (.bl ((List.replicate tys.length true).all id)) H'
    rw [all_true]
    exact hQ _ (Same.tr sm s1)
/-! ### Town -/
def norm (p : Nat × Nat) : Nat × Nat := (min p.1 p.2, max p.1 p.2)
def keyP (p : Nat × Nat) : NestedKey := .tup [.num (p.1 : Int), .num (p.2 : Int)]
theorem keyP_inj {p r : Nat × Nat} (h : keyP p = keyP r) : p = r := by
  injection h with h
  injection h with h1 h2
  injection h2 with h2 _
  injection h1 with h1
  injection h2 with h2
  exact Prod.ext (by omega) (by omega)
def toF (n : Nat) (t : Addr) : List (Str × V) := [("things", nV n), ("ties", .ref t)]
def TownAt (K : PySem.W.Frag) (cT : Addr) (H : Hp) (v : V) (n : Nat) (ts : List (Nat × Nat)) : Prop := ∃ a dx t, v = .ref a ∧ H a = some (.ins cT dx (toF n t)) ∧ Dp K H (.ref t) (tiesD ts)
theorem TownAt.to {H H' : Hp} (s : Same H H') {v : V} {n : Nat} {ts : List (Nat × Nat)} : TownAt K cT H v n ts → TownAt K cT H' v n ts
  | ⟨a, dx, t, h1, h2, h3⟩ => ⟨a, dx, t, h1, s _ _ h2, dp_same s _ _ h3⟩
theorem two_sorted {a b : Int} {l : List Int} (h : l.Perm [a, b]) (hs : l.Pairwise (· ≤ ·)) : l = [min a b, max a b] := by
  have hl := h.length_eq
  match l, hl, h, hs with
  | [x, y], _, h, hs =>
    have hxy : x ≤ y := by simpa using hs
    have hx : x ∈ [a, b] := h.mem_iff.mp (by simp)
    rcases List.mem_cons.mp hx with e | e
    · rw [e] at h hxy ⊢
      have h2 : y = b := by simpa using List.perm_singleton.mp (List.Perm.cons_inv h)
      rw [h2] at hxy ⊢
      rw [show min a b = a by omega, show max a b = b by omega]
    · have e := List.mem_singleton.mp e
      rw [e] at h hxy ⊢
      have h2 : y = a := by simpa using List.perm_singleton.mp (List.Perm.cons_inv (h.trans (List.Perm.swap b a [])))
      rw [h2] at hxy ⊢
      rw [show min a b = b by omega, show max a b = a by omega]
theorem norm_ints (p : Nat × Nat) : [min (p.1 : Int) (p.2 : Int), max (p.1 : Int) (p.2 : Int)] = [((norm p).1 : Int), ((norm p).2 : Int)] := by
  unfold norm
  simp only [List.cons.injEq, and_true]
  omega
theorem sq_ext {H H' : Hp} {a : Addr} {φ : Heap → Prop} (ha : H a = some (.ext φ)) (s : SameBut a H H') (b : Addr) (xs : List V) (h : SqT K H b xs) : SqT K H' b xs := by
  rcases h with (h | ⟨o, h⟩) | h
  · exact .inl (.inl (s b _ (ne_of h ha (by intro z; cases z)) h))
  · exact .inl (.inr ⟨o, s b _ (ne_of h ha (by intro z; cases z)) h⟩)
  · exact .inr h
theorem ky_of {H : Hp} {a : Addr} {p : Nat × Nat} (h : SqT K H a [nV p.1, nV p.2]) : Ky K H a (keyP p) := ⟨pr_sq h, rfl⟩
theorem ky_to {H H' : Hp} (s : ∀ a xs, SqT K H a xs → SqT K H' a xs) {a : Addr} {k : NestedKey} (hk : tupOnly k.data = true) (h : Ky K H a k) : Ky K H' a k := ⟨dp_only s _ _ hk h.dp, h.nums⟩
/-- a set of pairs at S -/
def PrSet (K : PySem.W.Frag) (w : World) (H : Hp) (S : Addr) (ps : List (Nat × Nat)) : Prop := ∃ L, H S = some (SetH w S L) ∧ (∀ p ∈ L, Ky K H p.1 p.2) ∧ (L.map (·.2)).Perm (ps.map keyP)
theorem PrSet.keys {L : List (Addr × NestedKey)} {ps : List (Nat × Nat)} (h : (L.map (·.2)).Perm (ps.map keyP)) : ∀ p ∈ L, ∃ r ∈ ps, p.2 = keyP r := fun p hp => by
  obtain ⟨r, hr, e⟩ := List.mem_map.mp (h.mem_iff.mp (List.mem_map.mpr ⟨p, hp, rfl⟩))
  exact ⟨r, hr, e.symm⟩
theorem sc_Town___init__ : FnScope ["self", "things", "ties", "known", "tie"] ["self", "things", "ties"] (defScope (inC 41 0)) := ⟨rfl, rfl, rfl, by decide +kernel, rfl, by decide +kernel, by decide +kernel⟩
def spTInit (K : PySem.W.Frag) (cT : Addr) : Sp := fun vs H Q _ => ∃ (x dx t : Addr) (tys : List V) (n : Nat) (ts : List (Nat × Nat)), vs = [.ref x, nV n, .ref t] ∧ H x = some (.ins cT dx []) ∧ H t = some (.lst tys) ∧ Each (fun y p => Dp K H y (prD p)) tys ts ∧ ts.length ≤ 170 ∧ 1 ≤ n ∧ n ≤ 40 ∧
  (∀ p ∈ ts, p.1 ≠ p.2 ∧ p.1 < n ∧ p.2 < n) ∧ (ts.map norm).Nodup ∧ ∀ H' ts', SameBut x H H' → TownAt K cT H' (.ref x) n ts' → ts'.Perm (ts.map norm) → Q .non H'
theorem tb_Town (e : Ev w K mg cS cQ cT) : BodyOk P w K mg base "Town.__init__" (inC 41 0) ["self", "things", "ties", "known", "tie"] 5 (spTInit K cT) := fun f cdv A outer s H vs Q E hr h => by
  have c_is_within := c_is_within (P := P) (base := base) e
  have c_are_pairs := c_are_pairs (P := P) (base := base) e
  obtain ⟨_, _, mT⟩ := e.m_Town
  have cl := mT.cls
  obtain ⟨x, dx, t, tys, n, ts, rfl, hx, ht, he, hz, hn1, hn2, hb, hnd, hQ⟩ := h
  have hl := he.1
  refine ⟨_, (pss_cons (ps_if (pt_not (pt_val (C8.pe_c c_is_within hr (by first | decide | omega) rfl (pa_cons (pv 1) (pa_cons pe_int (pa_cons (C8.pe_gc rfl e.g_MOST_THINGS) pa_nil)))))) pss_never pss_nil)
    (pss_cons (ps_if (pt_not (pt_val (C8.pe_c c_are_pairs hr (by first | decide | omega) rfl (pa_cons (pv 2) (pa_cons (pv 1) pa_nil))))) pss_never pss_nil)
    (pss_cons (ps_set (i := 3) sc_Town___init__.nd rfl (.inl rfl) (pe_callTy0 cr_newSet rfl e.n_set (by decide +kernel)))
    (pss_cons (ps_for PassesOwn.never rfl (pi_list (pv 2)) (pg_name (i := 4) sc_Town___init__.nd rfl (.inl rfl))
    (pss_cons (ps_if (pt_cmpR (op_inSet (hu64 hr)) (pe_callTy call_tuple_of rfl e.n_tuple (by decide +kernel) (pa_cons (pe_callB cr_sortT rfl e.n_sorted (by decide +kernel) (pa_cons (pv 4) pa_nil)) pa_nil)) (pv 3) rfl) pss_never pss_nil)
      (pss_one (ps_expr (pe_addSet (hu64 hr) (pv 3) (pa_cons (pe_callTy call_tuple_of rfl e.n_tuple (by decide +kernel) (pa_cons (pe_callB cr_sortT rfl e.n_sorted (by decide +kernel) (pa_cons (pv 4) pa_nil)) pa_nil)) pa_nil))))))
    (pss_cons (ps_fld (pv 0) (pv 1) rfl)
    (pss_one (ps_fld (pv 0) (pe_callTy call_tuple_of rfl e.n_tuple (by decide +kernel) (pa_cons (pe_callB (cr_sortedK rfl (hu64 hr)) rfl e.n_sorted (by decide +kernel) (pa_cons (pv 3) pa_nil)) pa_nil)) rfl))))))), ?_⟩
  refine ⟨_, rfl, (n : Int), 1, 40, rfl, _, rfl, ite_no (by rw [decide_eq_true (by omega : (1 : Int) ≤ (n : Int)), decide_eq_true (by omega : (n : Int) ≤ 40)] <;> rfl) ?_⟩
  refine ⟨_, rfl, _, rfl, t, tys, ts, n, rfl, ht, he, by omega, hb, fun H1 s1 => ⟨true, rfl, ite_no rfl ?_⟩⟩
  refine ⟨rfl, fun S hS => ?_⟩
  have s2 := same2 (o := SetH w S []) s1 hS
  have ht2 := s2 _ _ ht
  refine ⟨_, rfl, t, rfl, ⟨_, .inl (.inl ht2)⟩, ?_⟩
  have hS0 : H S = none := s1.free hS
  refine for_it (walk_list (xs := tys)) (fun i σ' H' => (∃ t4, σ' = [some (.ref x), some (nV n), some (.ref t), some (.ref S), t4]) ∧ Same H H' ∧ PrSet K w H' S ((ts.take i).map norm)) ⟨⟨none, rfl⟩, s2, [], upd_same, (fun p hp => by cases hp), .nil⟩
    (fun i σ' H' _ p => .inl (.inl (p.2.1 _ _ ht))) (fun i y σ' H2 H3 hi p hY => ?_) fun σ' H' p => ?_
  · obtain ⟨rfl, hy⟩ := hY
    obtain ⟨⟨t4, rfl⟩, s3, L, hL, hky, hpm⟩ := p
    have hi2 : i < ts.length := by rw [← hl]; exact hi
    have hp := List.getElem?_eq_getElem hi2
    obtain ⟨a, rfl, ha⟩ := pr_at (dp_same s3 _ _ (he.2 i y _ hy hp))
    have hLl : L.length = i := by
      have := hpm.length_eq
      rw [List.length_map, List.length_map, List.length_map, List.length_take] at this
      omega
    have hnot : keyP (norm ts[i]) ∉ L.map (·.2) := fun z => by
      obtain ⟨r, hr, e1⟩ := List.mem_map.mp (hpm.mem_iff.mp z)
      obtain ⟨r0, hr0, rfl⟩ := List.mem_map.mp hr
      have e2 := keyP_inj e1
      obtain ⟨j, hj, e3⟩ := List.mem_iff_getElem.mp hr0
      rw [List.length_take] at hj
      rw [List.getElem_take] at e3
      have hj2 : j < ts.length := by omega
      have : j = i := nodup_inj hnd (i := j) (j := i) (by rw [List.length_map]; exact hj2) (by rw [List.length_map]; exact hi2) (by rw [List.getElem_map, List.getElem_map, e3, e2])
      omega
    refine ⟨_, rfl, a, [(ts[i].1 : Int), (ts[i].2 : Int)], rfl, ha, (show 2 < 64 by decide), fun ns' p1 hperm hsrt hp1 => ?_⟩
    have en := (two_sorted hperm hsrt).trans (norm_ints ts[i])
    subst en
    refine ⟨p1, _, rfl, .inl ⟨.inl (.inl upd_same), fun k1 hk1 => ?_⟩⟩
    have s4 := Same.tr (new1 (o := .lst ([((norm ts[i]).1 : Int), ((norm ts[i]).2 : Int)].map V.int)) hp1) (new1 (o := .tup ([((norm ts[i]).1 : Int), ((norm ts[i]).2 : Int)].map V.int)) hk1)
    have hkL : ∀ q ∈ L, tupOnly q.2.data = true := fun q hq => by
      obtain ⟨r, _, e1⟩ := PrSet.keys hpm q hq
      rw [e1]
      rfl
    refine ⟨_, rfl, k1, S, _, L, rfl, rfl, ky_of (p := norm ts[i]) (.inl (.inl upd_same)), s4 _ _ hL, fun q hq => ky_to (same_sq s4) (hkL q hq) (hky q hq), _, rfl, ite_no (decide_eq_false hnot) ?_⟩
    have s5 := Same.tr s3 s4
    refine ⟨_, rfl, ⟨S, L, rfl, s4 _ _ hL⟩, _, rfl, a, [(ts[i].1 : Int), (ts[i].2 : Int)], rfl, sqT s4 ha, (show 2 < 64 by decide), fun ns' p2 hperm hsrt hp2 => ?_⟩
    have en := (two_sorted hperm hsrt).trans (norm_ints ts[i])
    subst en
    refine ⟨p2, _, rfl, .inl ⟨.inl (.inl upd_same), fun k2 hk2 => ?_⟩⟩
    have s6 := Same.tr (new1 (o := .lst ([((norm ts[i]).1 : Int), ((norm ts[i]).2 : Int)].map V.int)) hp2) (new1 (o := .tup ([((norm ts[i]).1 : Int), ((norm ts[i]).2 : Int)].map V.int)) hk2)
    have s7 := Same.tr s4 s6
    refine ⟨S, k2, keyP (norm ts[i]), L, rfl, rfl, ky_of (p := norm ts[i]) (.inl (.inl upd_same)), s7 _ _ hL, fun q hq => ky_to (same_sq s7) (hkL q hq) (hky q hq), by omega, fun L' _ hL' => ?_⟩
    have hp' := hL' hnot
    refine ⟨⟨_, rfl⟩, same3 hS0 (Same.tr s3 s7), L', upd_same, fun q hq => ?_, ?_⟩
    · have sb : ∀ b xs, SqT K _ b xs → SqT K _ b xs := sq_ext (s7 _ _ hL) (.upd (o := SetH w S L'))
      rcases List.mem_cons.mp (hp'.mem_iff.mp hq) with z | z
      · rw [z]
        exact ky_to sb rfl (ky_of (p := norm ts[i]) (.inl (.inl upd_same)))
      · exact ky_to sb (hkL q z) (ky_to (same_sq s7) (hkL q z) (hky q z))
    · rw [List.take_add_one, hp]
      show (L'.map (·.2)).Perm (((ts.take i ++ [ts[i]]).map norm).map keyP)
      rw [List.map_append, List.map_append]
      refine (hp'.map (·.2)).trans ?_
      exact (List.Perm.cons _ hpm).trans (List.perm_append_singleton _ _).symm
  · obtain ⟨⟨t4, rfl⟩, s3, L, hL, hky, hpm⟩ := p
    rw [he.1, List.take_length] at hpm
    have hx3 := s3 _ _ hx
    have hSx : S ≠ x := ne_of hL hx3 (by intro z; cases z)
    have hkL : ∀ q ∈ L, tupOnly q.2.data = true := fun q hq => by
      obtain ⟨r, _, e1⟩ := PrSet.keys hpm q hq
      rw [e1]
      rfl
    refine ⟨_, rfl, _, rfl, x, cT, dx, _, rfl, hx3, cl, e.f_Town _ (by simp), (by decide), ?_⟩
    have sb : ∀ b xs, SqT K H' b xs → SqT K (upd H' x (.ins cT dx (putF "things" (nV n) []))) b xs := sq_ins hx3 .upd
    have hal : PySem.W.AllAlike (L.map kd) := fun d hd d' hd' => by
      obtain ⟨q, hq, rfl⟩ := List.mem_map.mp hd
      obtain ⟨q', hq', rfl⟩ := List.mem_map.mp hd'
      obtain ⟨r, _, e1⟩ := PrSet.keys hpm q hq
      obtain ⟨r', _, e2⟩ := PrSet.keys hpm q' hq'
      show PySem.W.alike q.2.data q'.2.data = true
      rw [e1, e2]
      rfl
    have hso : PySem.W.Sortable (L.map kd) := .inl fun d hd => by
      obtain ⟨q, hq, rfl⟩ := List.mem_map.mp hd
      obtain ⟨r, _, e1⟩ := PrSet.keys hpm q hq
      refine ⟨.int (r.1 : Int), [.int (r.2 : Int)], ?_⟩
      show q.2.data = _
      rw [e1]
      rfl
    refine ⟨_, rfl, S, L, rfl, (upd_ne hSx).trans hL, fun q hq => ky_to sb (hkL q hq) (hky q hq), hal, .inl hso, fun L' p hperm _ hlen _ hp => ?_⟩
    refine ⟨p, _, rfl, .inl ⟨.inl (.inl upd_same), fun t' ht' => ?_⟩⟩
    have s4 := Same.tr (new1 (o := .lst (L'.map fun q => V.ref q.1)) hp) (new1 (o := .tup (L'.map fun q => V.ref q.1)) ht')
    have hx5 := s4 _ _ (upd_same (H := H') (a := x))
    refine ⟨_, rfl, x, cT, dx, _, rfl, hx5, cl, e.f_Town _ (by simp), (show 1 < 1000 by decide), ?_⟩
    obtain ⟨m, em, pm⟩ := perm_map_inv keyP ((hperm.map (·.2)).trans hpm) (ts.map norm) rfl
    have hne : t' ≠ x := ne_of (upd_same (a := t')) hx5 (by intro z; cases z)
    refine hQ _ m (fun b u hb' eb => ?_) ⟨x, dx, t', rfl, upd_same, ?_⟩ pm
    · rw [upd_ne hb']
      exact s4 _ _ (by rw [upd_ne hb']; exact s3 _ _ eb)
    · refine ties_dp (ys := L'.map fun q => V.ref q.1) (.inl (.inl (by rw [upd_ne hne, upd_same]))) ⟨?_, fun i y r hy hr' => ?_⟩
      · have := congrArg List.length em
        rw [List.length_map, List.length_map] at this
        rw [List.length_map]
        exact this
      · obtain ⟨q, hq, rfl⟩ := map_at hy
        have hqm := List.mem_of_getElem? hq
        have hqL := hperm.mem_iff.mp hqm
        have ek : q.2 = keyP r := by
          have h1 : (L'.map (·.2))[i]? = (m.map keyP)[i]? := by rw [em]
          rw [List.getElem?_map, List.getElem?_map, hq, hr'] at h1
          exact Option.some.inj h1
        have k0 := (ky_to (same_sq s4) (hkL q hqL) (ky_to sb (hkL q hqL) (hky q hqL))).dp
        rw [ek] at k0
        exact dp_only (sq_ins hx5 .upd) (prD r) _ rfl k0
theorem c_Town (e : Ev w K mg cS cQ cT) : C8.Mak P w K mg base 6 "Town" cT (spTInit K cT) [] := by
  obtain ⟨t0, _, mT⟩ := e.m_Town
  exact makD1 (n := 3) (j := 1) mT (by simp) rfl (fun _ _ _ _ _ _ _ us its h1 h2 => match us, h1, its, h2 with | [_, _, _], _, [_], _ => ⟨_, rfl, rfl⟩) sc_Town___init__ (fun vs H Q E h => by
    obtain ⟨x, dx, t, tys, n, ts, rfl, _⟩ := h; rfl) (tb_Town e)
end
end K61

end

section
set_option linter.all false
set_option maxRecDepth 100000
/-! K61, mathematics 2: masks of bits. -/
namespace K61
open PySem
theorem or_nat (a b : Nat) : Builtin.bitOr (a : Int) (b : Int) = ((a ||| b : Nat) : Int) := Bits.bitOr_pp (Int.natCast_nonneg a) (Int.natCast_nonneg b)
theorem and_nat (a b : Nat) : Builtin.bitAnd (a : Int) (b : Int) = ((a &&& b : Nat) : Int) := by
  unfold Builtin.bitAnd
  rw [decide_eq_true (Int.natCast_nonneg a), decide_eq_true (Int.natCast_nonneg b)]
  rfl
theorem or_add (a b : Nat) : (a ||| b) + (a &&& b) = a + b := by
  have h : Builtin.bitOr (a : Int) (b : Int) - Builtin.bitAnd (a : Int) (b : Int) = (a : Int) + (b : Int) - 2 * Builtin.bitAnd (a : Int) (b : Int) := PyProof.Rows.bitXor_and (a : Int) (b : Int)
  rw [or_nat, and_nat] at h
  omega
/-- a without the bits of b -/
def clr (a b : Nat) : Nat := a - (a &&& b)
theorem clr_bit (a b i : Nat) : (clr a b).testBit i = (a.testBit i && !b.testBit i) := by
  have e1 : (a &&& b) ||| (a ^^^ (a &&& b)) = a := Nat.eq_of_testBit_eq fun j => by
    simp only [Nat.testBit_or, Nat.testBit_xor, Nat.testBit_and]
    cases a.testBit j <;> cases b.testBit j <;> rfl
  have e2 : (a &&& b) &&& (a ^^^ (a &&& b)) = 0 := Nat.eq_of_testBit_eq fun j => by
    simp only [Nat.testBit_xor, Nat.testBit_and, Nat.zero_testBit]
    cases a.testBit j <;> cases b.testBit j <;> rfl
  have h := or_add (a &&& b) (a ^^^ (a &&& b))
  rw [e1, e2] at h
  have e3 : clr a b = a ^^^ (a &&& b) := by unfold clr; omega
  rw [e3, Nat.testBit_xor, Nat.testBit_and]
  cases a.testBit i <;> cases b.testBit i <;> rfl
theorem not_nat (a b : Nat) : Builtin.bitAnd (a : Int) (Builtin.bitNot (b : Int)) = ((clr a b : Nat) : Int) := by
  have h1 : ¬ (0 : Int) ≤ Builtin.bitNot (b : Int) := by unfold Builtin.bitNot; omega
  have h2 : Builtin.bitNot (Builtin.bitNot (b : Int)) = (b : Int) := by unfold Builtin.bitNot; omega
  unfold Builtin.bitAnd
  rw [decide_eq_true (Int.natCast_nonneg a), decide_eq_false h1]
  show (a : Int) - (((a : Int).toNat &&& (Builtin.bitNot (Builtin.bitNot (b : Int))).toNat : Nat) : Int) = _
  rw [h2, Int.toNat_natCast, Int.toNat_natCast]
  have h3 : a &&& b ≤ a := Nat.and_le_left
  unfold clr
  omega
theorem bit_ne {v : Nat} : v ≠ 0 ↔ ∃ i, v.testBit i = true := by
  constructor
  · intro h
    exact Nat.exists_testBit_of_ne_zero h
  · rintro ⟨i, h⟩ rfl
    rw [Nat.zero_testBit] at h
    cases h
def full (n : Nat) : Nat := 2 ^ n - 1
theorem full_bit (n i : Nat) : (full n).testBit i = decide (i < n) := Nat.testBit_two_pow_sub_one n i
theorem sum_bits : ∀ n : Nat, ((List.range n).map fun i => ((2 ^ i : Nat) : Int)).sum = ((full n : Nat) : Int)
  | 0 => rfl
  | n + 1 => by
    rw [List.range_succ, List.map_append, List.sum_append, sum_bits n]
    have h1 : 1 ≤ 2 ^ n := Nat.one_le_two_pow
    have h2 : 2 ^ (n + 1) = 2 * 2 ^ n := by rw [Nat.pow_succ]; omega
    unfold full
    rw [List.map_cons, List.map_nil, List.sum_cons, List.sum_nil, h2]
    generalize 2 ^ n = m at h1
    omega
theorem sub_bit {s a : Nat} (h : s.testBit a = true) : s - 2 ^ a = clr s (2 ^ a) ∧ 2 ^ a ≤ s := by
  have e : s &&& 2 ^ a = 2 ^ a := Nat.eq_of_testBit_eq fun j => by
    rw [Nat.testBit_and, Nat.testBit_two_pow]
    by_cases c : a = j
    · subst c; simp [h]
    · simp [c]
  refine ⟨by unfold clr; rw [e], ?_⟩
  have := Nat.and_le_left (n := s) (m := 2 ^ a)
  omega
/-- all things but a and b -/
def restN (n a b : Nat) : Nat := clr (clr (full n) (2 ^ a)) (2 ^ b)
theorem rest_bit {n a b i : Nat} : (restN n a b).testBit i = (decide (i < n) && decide (i ≠ a) && decide (i ≠ b)) := by
  unfold restN
  rw [clr_bit, clr_bit, full_bit, Nat.testBit_two_pow, Nat.testBit_two_pow]
  by_cases h1 : a = i <;> by_cases h2 : b = i <;> simp [h1, h2, eq_comm]
theorem rest_sub {n a b : Nat} (ha : a < n) (hb : b < n) (hne : b ≠ a) : ((full n : Nat) : Int) - ((2 ^ a : Nat) : Int) - ((2 ^ b : Nat) : Int) = ((restN n a b : Nat) : Int) := by
  obtain ⟨e1, l1⟩ := sub_bit (s := full n) (a := a) (by rw [full_bit]; simpa using ha)
  obtain ⟨e2, l2⟩ := sub_bit (s := clr (full n) (2 ^ a)) (a := b) (by
    rw [clr_bit, full_bit, Nat.testBit_two_pow]
    simp [hb, Ne.symm hne])
  unfold restN
  rw [← e1] at e2 l2 ⊢
  omega
/-- the four lots -/
def lotN (r o t : Nat) : Nat → Nat
  | 0 => clr r (o ||| t)
  | 1 => clr (r &&& t) o
  | 2 => clr (r &&& o) t
  | _ => r &&& o &&& t
def lotsN (r o t : Nat) : List Nat := (List.range 4).filter fun k => decide (lotN r o t k ≠ 0)
theorem lots_bits {n a b : Nat} {adj : Nat → Nat → Bool} {o t : Nat} (ho : ∀ c, c < n → o.testBit c = adj a c) (ht : ∀ c, c < n → t.testBit c = adj b c) : lotsN (restN n a b) o t = lots n adj a b := by
  unfold lotsN lots
  refine List.filter_congr fun k hk => ?_
  have hk4 : k < 4 := List.mem_range.mp hk
  have key : lotN (restN n a b) o t k ≠ 0 ↔ ∃ c, c < n ∧ c ≠ a ∧ c ≠ b ∧ code adj a b c = k := by
    rw [bit_ne]
    constructor
    · rintro ⟨c, h⟩
      have hc : c < n ∧ c ≠ a ∧ c ≠ b := by
        have hr : (restN n a b).testBit c = true := by
          match k, hk4, h with
          | 0, _, h => simp only [lotN, clr_bit, Bool.and_eq_true] at h; exact h.1
          | 1, _, h => simp only [lotN, clr_bit, Nat.testBit_and, Bool.and_eq_true] at h; exact h.1.1
          | 2, _, h => simp only [lotN, clr_bit, Nat.testBit_and, Bool.and_eq_true] at h; exact h.1.1
          | 3, _, h => simp only [lotN, Nat.testBit_and, Bool.and_eq_true] at h; exact h.1.1
        rw [rest_bit] at hr
        simpa [and_assoc] using hr
      refine ⟨c, hc.1, hc.2.1, hc.2.2, ?_⟩
      unfold code
      rw [← ho c hc.1, ← ht c hc.1]
      match k, hk4, h with
      | 0, _, h => simp only [lotN, clr_bit, Nat.testBit_or] at h; revert h; cases o.testBit c <;> cases t.testBit c <;> simp
      | 1, _, h => simp only [lotN, clr_bit, Nat.testBit_and] at h; revert h; cases o.testBit c <;> cases t.testBit c <;> simp
      | 2, _, h => simp only [lotN, clr_bit, Nat.testBit_and] at h; revert h; cases o.testBit c <;> cases t.testBit c <;> simp
      | 3, _, h => simp only [lotN, Nat.testBit_and] at h; revert h; cases o.testBit c <;> cases t.testBit c <;> simp
    · rintro ⟨c, h1, h2, h3, h4⟩
      have hr : (restN n a b).testBit c = true := by
        rw [rest_bit]
        simp [h1, h2, h3]
      refine ⟨c, ?_⟩
      unfold code at h4
      rw [← ho c h1, ← ht c h1] at h4
      match k, hk4, h4 with
      | 0, _, h4 => simp only [lotN, clr_bit, Nat.testBit_or, hr]; revert h4; cases o.testBit c <;> cases t.testBit c <;> simp
      | 1, _, h4 => simp only [lotN, clr_bit, Nat.testBit_and, hr]; revert h4; cases o.testBit c <;> cases t.testBit c <;> simp
      | 2, _, h4 => simp only [lotN, clr_bit, Nat.testBit_and, hr]; revert h4; cases o.testBit c <;> cases t.testBit c <;> simp
      | 3, _, h4 => simp only [lotN, Nat.testBit_and, hr]; revert h4; cases o.testBit c <;> cases t.testBit c <;> simp
  by_cases h : lotN (restN n a b) o t k ≠ 0
  · rw [decide_eq_true h]
    obtain ⟨c, h1, h2, h3, h4⟩ := key.mp h
    exact (List.any_eq_true.mpr ⟨c, List.mem_range.mpr h1, by simp [h2, h3, h4]⟩).symm
  · rw [decide_eq_false h]
    refine (List.any_eq_false.mpr fun c hc => ?_).symm
    intro z
    simp only [Bool.and_eq_true, decide_eq_true_eq] at z
    exact h (key.mpr ⟨c, List.mem_range.mp hc, z.1.1, z.1.2, z.2⟩)
end K61

end

section
set_option linter.all false
set_option maxRecDepth 100000
set_option maxHeartbeats 4000000
/-! K61, walk 13: holds, masks_of, sight_of. -/
namespace K61
open PySem PySem.Spec PyProof.Rows L2
section
variable {P : Program} {w : World} {K : PySem.W.Frag} {mg : Str → Option Value} {base : Heap} {cS cQ cT : Addr}
theorem sc_holds : FnScope ["town", "question"] ["town", "question"] (defScope (top 44)) := ⟨rfl, rfl, rfl, by decide +kernel, rfl, by decide +kernel, by decide +kernel⟩
def spHolds (K : PySem.W.Frag) (cQ cT : Addr) : Sp := fun vs H Q _ => ∃ (v u : V) (n : Nat) (ts : List (Nat × Nat)) (q : Qn), vs = [v, u] ∧ TownAt K cT H v n ts ∧ QuAt K cQ H u q ∧ n ≤ 1000 ∧ ts.length ≤ 1000 ∧ (∀ p ∈ ts, p.1 < n ∧ p.2 < n) ∧ q.free = [] ∧ q.looks ≤ 3 ∧ q.size ≤ 40 ∧
  ∀ H', Same H H' → Q (.bl (sem n (adjP ts) q fun _ => 0)) H'
theorem c_holds (e : Ev w K mg cS cQ cT) : C8.Cal P w K mg base 61 "holds" (spHolds K cQ cT) [] := by
  have c_need_town := c_need_town (P := P) (base := base) e
  have c_need_question := c_need_question (P := P) (base := base) e
  have c_need_closed := c_need_closed (P := P) (base := base) e
  have c_friends_in := c_friends_in (P := P) (base := base) e
  have c_is_so := c_is_so (P := P) (base := base) e 60
  obtain ⟨_, _, mT⟩ := e.m_Town
  have clT := mT.cls
  have clQ := e.m_Question.cls
  refine calD e.d_holds (fun _ _ _ _ _ _ us hl => match us, hl with | [_, _], _ => rfl) sc_holds (fun vs H Q E h => ?_) fun f cdv A outer s H vs Q E hr h => ?_
  · obtain ⟨v, u, _, _, _, rfl, _⟩ := h; rfl
  obtain ⟨v, u, n, ts, q, rfl, ⟨a, dx, t, rfl, ha, htd⟩, hqu, hn, hz, hb, hf, hl, hs, hQ⟩ := h
  obtain ⟨b, dy, r, tx, fr, rfl, hb0, hq⟩ := id hqu
  obtain ⟨_, tys, e0, htt, hte⟩ := dp_ties htd
  cases e0
  have hdl := q.deep_le
  refine ⟨_, (pss_cons (ps_expr (C8.pe_c c_need_town hr (by first | decide | omega) rfl (pa_cons (pv 0) pa_nil)))
    (pss_cons (ps_expr (C8.pe_c c_need_question hr (by first | decide | omega) rfl (pa_cons (pv 1) pa_nil)))
    (pss_cons (ps_expr (C8.pe_c c_need_closed hr (by first | decide | omega) rfl (pa_cons (pv 1) pa_nil)))
    (pss_one (ps_ret (C8.pe_c c_is_so hr (by first | decide | omega) rfl (pa_cons (C8.pe_c c_friends_in hr (by first | decide | omega) rfl (pa_cons (pe_fld (pv 0) rfl) (pa_cons (pe_fld (pv 0) rfl) pa_nil))) (pa_cons (pe_fld (pv 1) rfl) (pa_cons (pe_dnewK) pa_nil))))))))), ?_⟩
  refine ⟨_, rfl, a, _, _, _, rfl, ha, ?_⟩
  refine ⟨_, rfl, b, _, _, _, rfl, hb0, ?_⟩
  refine ⟨_, rfl, _, q, rfl, hqu, hl, ?_⟩
  refine ⟨_, rfl, a, _, _, _, _, rfl, ha, clT, e.f_Town _ (by simp), rfl, _, rfl, a, _, _, _, _, rfl, ha, clT, e.f_Town _ (by simp), rfl, ?_⟩
  refine ⟨n, t, tys, ts, rfl, hn, htt, hte, hz, hb, fun F H1 s1 hF => ?_⟩
  refine ⟨_, rfl, b, _, _, _, _, rfl, s1 _ _ hb0, clQ, e.f_Question _ (by simp), rfl, fun d hd => ?_⟩
  have s2 := same2 (o := .dK []) s1 hd
  refine ⟨r, F, d, q, n, adjP ts, fun _ => 0, [], 0, rfl, hq.to (same_sq s2), by omega, hF.to (new1 hd), hn, ⟨[], upd_same, Nat.le_refl 0, fun a ha => by cases ha⟩, by omega, (by rw [hf]; exact fun a ha => ha), (fun a ha => by cases ha), fun H3 s3 => hQ H3 (Same.tr s2 s3)⟩
theorem ixN_of {n j : Nat} (hj : j < n) : ixN n (j : Int) = some j := by
  unfold ixN
  rw [if_pos (Int.natCast_nonneg j), if_pos (Int.ofNat_lt.mpr hj), Int.toNat_natCast]
theorem sc_masks_of : FnScope ["town", "bits", "masks", "one", "other", "thing"] ["town"] (defScope (top 48)) := ⟨rfl, rfl, rfl, by decide +kernel, rfl, by decide +kernel, by decide +kernel⟩
def bitsL (n : Nat) : List V := (List.range n).map fun i => nV (2 ^ i)
def spMasks (K : PySem.W.Frag) (cT : Addr) : Sp := fun vs H Q _ => ∃ (v : V) (n : Nat) (ts : List (Nat × Nat)), vs = [v] ∧ TownAt K cT H v n ts ∧ n ≤ 1000 ∧ ts.length ≤ 1000 ∧ (∀ p ∈ ts, p.1 < n ∧ p.2 < n) ∧
  ∀ r B M (ms : List Nat) H', Same H H' → H' r = some (.tup [.ref B, .ref M]) → H' B = some (.lst (bitsL n)) → H' M = some (.lst (ms.map nV)) → ms.length = n → (∀ (a m : Nat), ms[a]? = some m → ∀ c, m.testBit c = adjP ts a c) → Q (.ref r) H'
theorem adjP_bit {ts : List (Nat × Nat)} {i : Nat} {p : Nat × Nat} (h : ts[i]? = some p) (a b : Nat) : adjP (ts.take (i + 1)) a b = ((adjP (ts.take i) a b || (decide (a = p.1) && decide (p.2 = b))) || (decide (a = p.2) && decide (p.1 = b))) := by
  have := adjP_more h a b
  cases e : adjP (ts.take (i + 1)) a b with
  | true =>
    rw [e] at this
    rcases this.mpr rfl with (z | ⟨z1, z2⟩) | ⟨z1, z2⟩
    · rw [z]; simp
    · simp [z1, z2]
    · simp [z1, z2]
  | false =>
    rw [e] at this
    symm
    rw [Bool.eq_false_iff]
    intro z
    have q : (false : Bool) = true := this.mp (by
      simp only [Bool.or_eq_true, Bool.and_eq_true, decide_eq_true_eq] at z
      rcases z with (z | ⟨z1, z2⟩) | ⟨z1, z2⟩
      · exact .inl (.inl z)
      · exact .inl (.inr ⟨z1, z2.symm⟩)
      · exact .inr ⟨z1, z2.symm⟩)
    cases q
theorem c_masks_of (e : Ev w K mg cS cQ cT) : C8.Cal P w K mg base 1 "masks_of" (spMasks K cT) [] := by
  obtain ⟨_, _, mT⟩ := e.m_Town
  have clT := mT.cls
  refine calD e.d_masks_of (fun _ _ _ _ _ _ us hl => match us, hl with | [_], _ => rfl) sc_masks_of (fun vs H Q E h => ?_) fun f cdv A outer s H vs Q E hr h => ?_
  · obtain ⟨v, _, _, rfl, _⟩ := h; rfl
  obtain ⟨v, n, ts, rfl, ⟨a, dx, t, rfl, ha, htd⟩, hn, hz, hb, hQ⟩ := h
  obtain ⟨_, tys, e0, htt, hte⟩ := dp_ties htd
  cases e0
  refine ⟨_, (pss_cons (ps_setLc (i := 1) (own := [("thing", 5)]) (tt := tYes) rfl sc_masks_of.nd rfl rfl (sw_true rfl rfl rfl (by decide +kernel)) (pi_range1 rfl e.n_range (pa_cons (pe_fld (pv 0) rfl) pa_nil)) (blkOk_by (N := ["town", "bits", "masks", "one", "other", "thing"]) (sc := defScope (top 48)) (by decide +kernel)) (fun _ _ _ _ _ => (pg_name (i := 5) sc_masks_of.nd rfl (.inl rfl))) (fun _ _ _ _ _ => pts_nil) (fun _ _ _ _ _ => (pe_op op_shl pe_int (pv 5))))
    (pss_cons (ps_set (i := 2) sc_masks_of.nd rfl (.inl rfl) (pe_op op_rep (pe_lst (pa_cons pe_int pa_nil)) (pe_fld (pv 0) rfl)))
    (pss_cons (ps_for PassesOwn.never rfl (pi_tup (pe_fld (pv 0) rfl)) (pg_tup rfl (pgs_cons (pg_name (i := 3) sc_masks_of.nd rfl (.inl rfl)) (pgs_cons (pg_name (i := 4) sc_masks_of.nd rfl (.inl rfl)) pgs_nil)))
    (pss_cons (ps_asg (pe_op op_or (pe_ix ix_list (pv 2) (pv 3) (fun _ _ => rfl)) (pe_ix ix_list (pv 1) (pv 4) (fun _ _ => rfl))) (pg_sub (pv 2) (pv 3) set_list))
      (pss_one (ps_asg (pe_op op_or (pe_ix ix_list (pv 2) (pv 4) (fun _ _ => rfl)) (pe_ix ix_list (pv 1) (pv 3) (fun _ _ => rfl))) (pg_sub (pv 2) (pv 4) set_list)))))
    (pss_one (ps_ret (pe_tup (pa_cons (pv 1) (pa_cons (pv 2) pa_nil)))))))), ?_⟩
  refine ⟨_, rfl, a, _, _, _, _, rfl, ha, clT, e.f_Town _ (by simp), rfl, (n : Int), rfl, by omega, by omega, fun B hB => ?_⟩
  have hnn : (n : Int).toNat = n := Int.toNat_natCast n
  rw [hnn]
  refine lc_told (walk_rangeN (n := n)) hB (by omega) (bitsL n) (by simp [bitsL]) (fun _ _ => trivial) (fun i x y H1 H2 ys Kk hy s1 _ hY hk => ?_) fun H1 s1 hB1 => ?_
  · obtain ⟨rfl, rfl⟩ := hY
    have hi : i < n := by
      have := (List.getElem?_eq_some_iff.mp hy).1
      simpa [bitsL] using this
    have ey : y = nV (2 ^ i) := by
      unfold bitsL at hy
      rw [List.getElem?_map, List.getElem?_range hi] at hy
      exact (Option.some.inj hy).symm
    subst ey
    refine ⟨rfl, _, rfl, _, _, rfl, rfl, ⟨by omega, by omega, by decide⟩, ?_⟩
    have e1 : (1 : Int) * 2 ^ ((i : Int)).toNat = ((2 ^ i : Nat) : Int) := by
      rw [Int.one_mul, Int.toNat_natCast]
      exact (Int.natCast_pow 2 i).symm
    show Kk (.int (1 * 2 ^ ((i : Int)).toNat)) H2
    rw [e1]
    exact hk _ (Same.refl _)
  · refine ⟨by show 1 ≤ sizeLine; decide, fun z hz1 => ?_⟩
    have s2 := same2 (o := .lst [.int 0]) s1 hz1
    refine ⟨_, rfl, a, _, _, _, _, rfl, s2 _ _ ha, clT, e.f_Town _ (by simp), rfl, z, (n : Int), _, rfl, rfl, upd_same, by omega, by omega, small (m := 1000) (by rw [hnn]; simpa using hn), fun M hM => ?_⟩
    rw [hnn]
    have s3 := Same.tr (new1 hz1) (new1 (o := .lst (List.replicate n [V.int 0]).flatten) hM)
    have hM1 : H1 M = none := (new1 hz1).free hM
    have hBM : B ≠ M := ne_of_none hB1 hM1
    have hM0 : H M = none := s1.free hM1
    have hBB : upd (upd H1 z (.lst [.int 0])) M (.lst (List.replicate n [V.int 0]).flatten) B = some (.lst (bitsL n)) := s3 _ _ hB1
    have h0 : (List.replicate n [V.int 0]).flatten = (List.replicate n 0).map nV := by
      rw [List.map_replicate, List.flatten_replicate_singleton]
      rfl
    refine ⟨_, rfl, a, _, _, _, _, rfl, Same.tr s1 s3 _ _ ha, clT, e.f_Town _ (by simp), rfl, t, rfl, ⟨_, sqT (Same.tr s1 s3) htt⟩, ?_⟩
    refine for_it (walk_tup (xs := tys)) (fun i σ' H' => (∃ t3 t4 t5, σ' = [some (.ref a), some (.ref B), some (.ref M), t3, t4, t5]) ∧ Same H H' ∧ H' B = some (.lst (bitsL n)) ∧ ∃ ms : List Nat, H' M = some (.lst (ms.map nV)) ∧ ms.length = n ∧ ∀ (a m : Nat), ms[a]? = some m → ∀ c, m.testBit c = adjP (ts.take i) a c)
      ⟨⟨none, none, none, rfl⟩, Same.tr s1 s3, hBB, List.replicate n 0, by rw [upd_same, h0], by simp, fun x m hm c => by rw [List.eq_of_mem_replicate (List.mem_of_getElem? hm), Nat.zero_testBit]; simp [adjP]⟩
      (fun i σ' H' _ p => sqT p.2.1 htt) (fun i x σ' H2 H3 hi p hY => ?_) fun σ' H' p => ?_
    · obtain ⟨rfl, hx⟩ := hY
      obtain ⟨⟨t3, t4, t5, rfl⟩, s4, hB4, ms, hM4, hml, hbit⟩ := p
      have hi2 : i < ts.length := by rw [← hte.1]; exact hi
      have hp := List.getElem?_eq_getElem hi2
      obtain ⟨pa, rfl, hpa⟩ := pr_at (dp_same s4 _ _ (hte.2 i x _ hx hp))
      obtain ⟨b1, b2⟩ := hb _ (List.mem_of_getElem? hp)
      refine ⟨pa, _, rfl, hpa, rfl, _, _, rfl, _, _, rfl, rfl, ?_⟩
      generalize ts[i] = pr at hp b1 b2 hpa
      obtain ⟨x, y⟩ := pr
      dsimp only at b1 b2
      have gx : ms[x]? = some ms[x] := List.getElem?_eq_getElem (by omega)
      have by' : (bitsL n)[y]? = some (nV (2 ^ y)) := by unfold bitsL; rw [List.getElem?_map, List.getElem?_range b2] <;> rfl
      have bx' : (bitsL n)[x]? = some (nV (2 ^ x)) := by unfold bitsL; rw [List.getElem?_map, List.getElem?_range b1] <;> rfl
      refine ⟨_, rfl, _, rfl, M, _, _, _, rfl, rfl, .inl (.inl hM4), atN (v := nV ms[x]) (by rw [List.getElem?_map, gx] <;> rfl), _, rfl, _, rfl, B, _, _, _, rfl, rfl, .inl (.inl hB4), atN by', _, _, rfl, rfl, ?_⟩
      refine ⟨_, rfl, _, rfl, M, _, _, x, rfl, rfl, hM4, ixN_of (by rw [List.length_map]; omega), ?_⟩
      have e1 : V.int (Builtin.bitOr (ms[x] : Int) ((2 ^ y : Nat) : Int)) = nV (ms[x] ||| 2 ^ y) := congrArg V.int (or_nat _ _)
      dsimp only
      rw [e1]
      have hset : (ms.map nV).set x (nV (ms[x] ||| 2 ^ y)) = (ms.set x (ms[x] ||| 2 ^ y)).map nV := List.map_set.symm
      rw [hset]
      have hbit1 : ∀ (a m : Nat), (ms.set x (ms[x] ||| 2 ^ y))[a]? = some m → ∀ c, m.testBit c = (adjP (ts.take i) a c || (decide (a = x) && decide (y = c))) := fun a m hm c => by
        rw [List.getElem?_set] at hm
        by_cases ca : x = a
        · subst ca
          rw [if_pos rfl, if_pos (by omega)] at hm
          cases hm
          rw [Nat.testBit_or, Nat.testBit_two_pow, hbit x _ gx]
          simp
        · rw [if_neg ca] at hm
          rw [hbit a m hm]
          simp [Ne.symm ca]
      have hml1 : (ms.set x (ms[x] ||| 2 ^ y)).length = n := by rw [List.length_set]; exact hml
      generalize ms.set x (ms[x] ||| 2 ^ y) = ms1 at hbit1 hml1
      have gy : ms1[y]? = some ms1[y] := List.getElem?_eq_getElem (by omega)
      have hB5 : upd H3 M (.lst (ms1.map nV)) B = some (.lst (bitsL n)) := by rw [upd_ne hBM]; exact hB4
      refine ⟨_, rfl, _, rfl, M, _, _, _, rfl, rfl, .inl (.inl upd_same), atN (v := nV ms1[y]) (by rw [List.getElem?_map, gy] <;> rfl), _, rfl, _, rfl, B, _, _, _, rfl, rfl, .inl (.inl hB5), atN bx', _, _, rfl, rfl, ?_⟩
      refine ⟨_, rfl, _, rfl, M, _, _, y, rfl, rfl, upd_same, ixN_of (by rw [List.length_map]; omega), ?_⟩
      have e2 : V.int (Builtin.bitOr (ms1[y] : Int) ((2 ^ x : Nat) : Int)) = nV (ms1[y] ||| 2 ^ x) := congrArg V.int (or_nat _ _)
      dsimp only
      rw [e2]
      have hset2 : (ms1.map nV).set y (nV (ms1[y] ||| 2 ^ x)) = (ms1.set y (ms1[y] ||| 2 ^ x)).map nV := List.map_set.symm
      rw [hset2]
      refine ⟨⟨_, _, _, rfl⟩, same3 hM0 (same3 hM0 s4), by rw [upd_ne hBM]; exact hB5, _, upd_same, by rw [List.length_set]; exact hml1, fun a m hm c => ?_⟩
      rw [adjP_bit hp]
      rw [List.getElem?_set] at hm
      by_cases ca : y = a
      · subst ca
        rw [if_pos rfl, if_pos (by omega)] at hm
        cases hm
        rw [Nat.testBit_or, Nat.testBit_two_pow, hbit1 y _ gy]
        simp
      · rw [if_neg ca] at hm
        rw [hbit1 a m hm]
        simp [Ne.symm ca]
    · obtain ⟨⟨t3, t4, t5, rfl⟩, s4, hB4, ms, hM4, hml, hbit⟩ := p
      rw [hte.1, List.take_length] at hbit
      refine ⟨_, rfl, _, rfl, (by show 2 ≤ sizeLine; decide), fun r hr' => ?_⟩
      have s5 := new1 (o := .tup [.ref B, .ref M]) hr'
      exact hQ r B M ms _ (Same.tr s4 s5) upd_same (s5 _ _ hB4) (s5 _ _ hM4) hml hbit
theorem sc_sight_of : FnScope ["rest", "tied", "one", "other", "lots", "number", "lot"] ["rest", "tied", "one", "other"] (defScope (top 49)) := ⟨rfl, rfl, rfl, by decide +kernel, rfl, by decide +kernel, by decide +kernel⟩
def spSight (K : PySem.W.Frag) : Sp := fun vs H Q _ => ∃ (r o t : Nat) (b : Bool), vs = [nV r, .int (tI b), nV o, nV t] ∧ ∀ v H', Same H H' → Dp K H' v (sgtD (b, lotsN r o t)) → Q v H'
theorem c_sight_of (e : Ev w K mg cS cQ cT) : C8.Cal P w K mg base 1 "sight_of" (spSight K) [] := by
  refine calD e.d_sight_of (fun _ _ _ _ _ _ us hl => match us, hl with | [_, _, _, _], _ => rfl) sc_sight_of (fun vs H Q E h => ?_) fun f cdv A outer s H vs Q E hr h => ?_
  · obtain ⟨_, _, _, _, rfl, _⟩ := h; rfl
  obtain ⟨r, o, t, b, rfl, hQ⟩ := h
  refine ⟨_, (pss_cons (ps_set (i := 4) sc_sight_of.nd rfl (.inl rfl) (pe_lst (pa_cons (pe_op op_and (pv 0) (pe_un un_inv (pe_op op_or (pv 2) (pv 3)))) (pa_cons (pe_op op_and (pe_op op_and (pv 0) (pv 3)) (pe_un un_inv (pv 2))) (pa_cons (pe_op op_and (pe_op op_and (pv 0) (pv 2)) (pe_un un_inv (pv 3))) (pa_cons (pe_op op_and (pe_op op_and (pv 0) (pv 2)) (pv 3)) pa_nil))))))
    (pss_one (ps_ret (pe_tup (pa_cons (pv 1) (pa_cons (pe_callTy call_tuple_of rfl e.n_tuple (by decide +kernel) (pa_cons (pe_lc (own := [("number", 5), ("lot", 6)]) (g := (gTup K 2 (gCons (gName 5) (gCons (gName 6) gNil)))) rfl sc_sight_of.nd (pi_enum rfl e.n_enumerate (pa_cons (pv 4) pa_nil)) (blkOk_by (N := ["rest", "tied", "one", "other", "lots", "number", "lot"]) (sc := defScope (top 49)) (by decide +kernel)) (fun _ _ _ _ _ => (pg_tup rfl (pgs_cons (pg_name (i := 5) sc_sight_of.nd rfl (.inl rfl)) (pgs_cons (pg_name (i := 6) sc_sight_of.nd rfl (.inl rfl)) pgs_nil)))) (fun _ _ _ _ _ => (pts_one (pt_cmpR op_ne (pv 6) pe_int (nomark _)))) (fun _ _ _ _ _ => (pv 5))) pa_nil)) pa_nil)))))), ?_⟩
  refine ⟨_, rfl, _, rfl, _, rfl, _, _, rfl, rfl, _, rfl, _, _, rfl, rfl, ?_⟩
  refine ⟨_, rfl, _, rfl, _, _, rfl, rfl, _, rfl, _, rfl, _, _, rfl, rfl, ?_⟩
  refine ⟨_, rfl, _, rfl, _, _, rfl, rfl, _, rfl, _, rfl, _, _, rfl, rfl, ?_⟩
  refine ⟨_, rfl, _, rfl, _, _, rfl, rfl, _, rfl, _, _, rfl, rfl, (by show 4 ≤ sizeLine; decide), fun L hL => ?_⟩
  have eL : [V.int (Builtin.bitAnd (r : Int) (Builtin.bitNot (Builtin.bitOr (o : Int) (t : Int)))), V.int (Builtin.bitAnd (Builtin.bitAnd (r : Int) (t : Int)) (Builtin.bitNot (o : Int))), V.int (Builtin.bitAnd (Builtin.bitAnd (r : Int) (o : Int)) (Builtin.bitNot (t : Int))), V.int (Builtin.bitAnd (Builtin.bitAnd (r : Int) (o : Int)) (t : Int))] = (List.range 4).map fun k => nV (lotN r o t k) := by
    rw [or_nat, and_nat r t, and_nat r o, not_nat, not_nat, not_nat, and_nat]
    rfl
  dsimp only
  rw [eL]
  have s1 := new1 (o := .lst ((List.range 4).map fun k => nV (lotN r o t k))) hL
  refine ⟨_, rfl, _, rfl, L, _, rfl, .inl (.inl upd_same), fun D hD => ?_⟩
  refine lc_keep (walk_enum (xs := (List.range 4).map fun k => nV (lotN r o t k))) hD (by simp) (fun k => decide (lotN r o t k ≠ 0)) nV (fun H' s' => .inl (.inl (s' _ _ upd_same))) (fun i x H1 H2 ys Kn Kk hi s2 _ hY h1 h2 => ?_) fun H' s2 hD2 => ?_
  · obtain ⟨T, x1, x2, rfl, hT, rfl, e1, e2⟩ := hY
    have hi4 : i < 4 := by simpa using hi
    have ex2 : x2 = nV (lotN r o t i) := by
      have q : ((List.range 4).map fun k => nV (lotN r o t k))[i]? = some x2 := e2
      rw [List.getElem?_map, List.getElem?_range hi4] at q
      exact (Option.some.inj q).symm
    have ex1 : x1 = nV i := (Option.some.inj e1).symm
    subst ex1 ex2
    refine ⟨T, _, rfl, .inl (.inl upd_same), rfl, _, _, rfl, _, _, rfl, rfl, rfl, ?_⟩
    refine ⟨_, rfl, rfl, _, rfl, ?_⟩
    have e3 : (!decide (nV (lotN r o t i) = V.int 0)) = decide (lotN r o t i ≠ 0) := by
      by_cases c : lotN r o t i = 0
      · rw [c]; decide
      · have : ¬ nV (lotN r o t i) = V.int 0 := fun z => c (by have := V.int.inj z; omega)
        rw [decide_eq_false this, decide_eq_true c]
        rfl
    show if (!decide (nV (lotN r o t i) = V.int 0)) = true then _ else _
    rw [e3]
    exact ite2 (fun c => ⟨_, rfl, h1 _ (new1 hT) c⟩) fun c => h2 _ (new1 hT) (by simpa using c)
  · rw [List.length_map, List.length_range] at hD2
    refine ⟨D, _, rfl, .inl ⟨.inl (.inl hD2), fun u hu => ⟨(by show 2 ≤ sizeLine; decide), fun p hp => ?_⟩⟩⟩
    have s3 := Same.tr s1 (Same.tr s2 (same2 (o := .tup [.int (tI b), .ref u]) (new1 (o := .tup (((List.range 4).filter fun k => decide (lotN r o t k ≠ 0)).map nV)) hu) hp))
    refine hQ _ _ s3 (sgt_of (s := (b, lotsN r o t)) (.inl (.inl upd_same)) (.inl (.inl (new1 hp _ _ ?_))))
    rw [upd_same, List.map_map]
    rfl
end
end K61

end

section
set_option linter.all false
set_option maxRecDepth 100000
set_option maxHeartbeats 4000000
/-! K61, mathematics 3: the order of views. -/
namespace K61
open PySem PySem.Spec PyProof.Rows L2
abbrev DLt (a b : PyData) : Prop := PySem.W.dataLt a b = true
theorem dlt_irr (a : PyData) : ¬ DLt a a := fun h => by
  have q : PySem.W.dataLt a a = false := lex_irrefl (O := itemOrd) (PySem.W.keyToks a)
  exact absurd (q.symm.trans h) Bool.false_ne_true
section
variable {α : Type} {enc : α → PyData} (hal : ∀ a b, PySem.W.alike (enc a) (enc b) = true) (heq : ∀ a b, PyData.eqv (enc a) (enc b) = true ↔ a = b)
include heq in
theorem eqv_list : ∀ l m : List α, PyData.eqv (.tuple (l.map enc)) (.tuple (m.map enc)) = true ↔ l = m := by
  have key : ∀ l m : List α, PyData.eqvAll (l.map enc) (m.map enc) = true ↔ l = m := by
    intro l
    induction l with
    | nil => intro m; cases m <;> simp [PyData.eqvAll]
    | cons x r ih =>
      intro m
      cases m with
      | nil => simp [PyData.eqvAll]
      | cons y s =>
        rw [List.map_cons, List.map_cons, PySem.W.eqv_all_cons, Bool.and_eq_true, heq, ih]
        simp
  intro l m
  rw [PyData.eqv]
  exact key l m
end
theorem dlt_tri {x y : PyData} (h : PySem.W.alike x y = true) (e : PyData.eqv x y = false) : DLt x y ∨ DLt y x := by
  cases h1 : PySem.W.dataLt x y with
  | true => exact .inl h1
  | false =>
    cases h2 : PySem.W.dataLt y x with
    | true => exact .inr h2
    | false =>
      have et : PySem.W.keyToks x = PySem.W.keyToks y := (listOrd itemOrd).total _ _ h1 h2
      have q := (PySem.W.toks_eqv x y h).2 e
      have q1 := q [] [Sum.inl 0]
      rw [et, PySem.W.lex_pre] at q1
      have q2 := lex_irrefl (O := itemOrd) (PySem.W.keyToks y)
      rw [q2] at q1
      cases q1
theorem dlt_trans {a b c : PyData} (h1 : DLt a b) (h2 : DLt b c) : DLt a c := (listOrd itemOrd).trans _ _ _ h1 h2
theorem nI_eqv (a b : Nat) : PyData.eqv (nI a) (nI b) = true ↔ a = b := by
  unfold nI
  rw [PyData.eqv]
  simp only [beq_iff_eq]
  omega
theorem sgt_eqv (a b : Sgt) : PyData.eqv (sgtD a) (sgtD b) = true ↔ a = b := by
  obtain ⟨a1, a2⟩ := a
  obtain ⟨b1, b2⟩ := b
  unfold sgtD
  rw [PyData.eqv, PySem.W.eqv_all_cons, PySem.W.eqv_all_cons, Bool.and_eq_true, Bool.and_eq_true, eqv_list nI_eqv]
  cases a1 <;> cases b1 <;> simp [PyData.eqv, PyData.eqvAll]
theorem vw_eqv (a b : Vw) : PyData.eqv (vwD a) (vwD b) = true ↔ a = b := eqv_list sgt_eqv a b
theorem vws_eqv (a b : List Vw) : PyData.eqv (.tuple (a.map vwD)) (.tuple (b.map vwD)) = true ↔ a = b := eqv_list vw_eqv a b
theorem sgt_tri {a b : Sgt} (h : a ≠ b) : DLt (sgtD a) (sgtD b) ∨ DLt (sgtD b) (sgtD a) := dlt_tri (sgtD_alike a b) (Bool.eq_false_iff.mpr fun z => h ((sgt_eqv a b).mp z))
theorem vw_tri {a b : Vw} (h : a ≠ b) : DLt (vwD a) (vwD b) ∨ DLt (vwD b) (vwD a) := dlt_tri (vwD_alike a b) (Bool.eq_false_iff.mpr fun z => h ((vw_eqv a b).mp z))
/-- a list that never falls, each thing once, ascends -/
theorem asc_of {α : Type} {enc : α → PyData} (tri : ∀ a b, a ≠ b → DLt (enc a) (enc b) ∨ DLt (enc b) (enc a)) {l : List α} (hn : l.Nodup) (hp : l.Pairwise fun a b => PySem.W.dataLt (enc b) (enc a) = false) : l.Pairwise fun a b => PySem.W.dataLt (enc a) (enc b) = true := by
  refine (hn.and hp).imp fun {a b} h => ?_
  rcases tri a b h.1 with z | z
  · exact z
  · rw [show PySem.W.dataLt (enc b) (enc a) = true from z] at h
    cases h.2
theorem all_asc : allSights.Pairwise fun a b => PySem.W.dataLt (sgtD a) (sgtD b) = true := by decide +kernel
theorem view_asc (n : Nat) (adj : Nat → Nat → Bool) (a : Nat) : (view n adj a).Pairwise fun a b => PySem.W.dataLt (sgtD a) (sgtD b) = true := all_asc.filter _
theorem all_ok : ∀ s ∈ allSights, SgtOk s := by
  unfold SgtOk
  decide +kernel
theorem view_ok (n : Nat) (adj : Nat → Nat → Bool) (a : Nat) : VwOk (view n adj a) := by
  refine ⟨Nat.le_trans (List.length_filter_le _ _) (by decide), fun s hs => all_ok s (List.mem_filter.mp hs).1, view_asc n adj a⟩
theorem view_is {n : Nat} {adj : Nat → Nat → Bool} {a : Nat} {u : Vw} (hp : u.Pairwise fun a b => PySem.W.dataLt (sgtD a) (sgtD b) = true) (hm : ∀ s, s ∈ u ↔ ∃ b, b < n ∧ b ≠ a ∧ sight n adj a b = s) : u = view n adj a :=
  asc_unique (R := fun a b => DLt (sgtD a) (sgtD b)) (fun a => dlt_irr _) (fun a b c => dlt_trans) hp (view_asc n adj a) fun s => (hm s).trans mem_view.symm
/-! ### as keys -/
def nK (n : Nat) : NestedKey := .num (n : Int)
def keyS (s : Sgt) : NestedKey := .tup [.num (tI s.1), .tup (s.2.map nK)]
def keyV (u : Vw) : NestedKey := .tup (u.map keyS)
theorem datas_nums : ∀ l : List Nat, NestedKey.datas (l.map nK) = l.map nI
  | [] => rfl
  | n :: r => by
    rw [List.map_cons, NestedKey.datas, datas_nums r]
    rfl
theorem keyS_data (s : Sgt) : (keyS s).data = sgtD s := by
  unfold keyS sgtD
  rw [NestedKey.data, NestedKey.datas, NestedKey.datas, NestedKey.datas, NestedKey.data, NestedKey.data, datas_nums]
  rfl
theorem datas_sgts : ∀ u : Vw, NestedKey.datas (u.map keyS) = u.map sgtD
  | [] => rfl
  | s :: r => by rw [List.map_cons, NestedKey.datas, datas_sgts r, keyS_data] <;> rfl
theorem keyV_data (u : Vw) : (keyV u).data = vwD u := by
  unfold keyV vwD
  rw [NestedKey.data, datas_sgts]
theorem keyS_nums (n : Nat) (s : Sgt) : intK (n + 2) (keyS s) = true := by
  show ([NestedKey.num (tI s.1), .tup (s.2.map nK)].all (intK (n + 1))) = true
  have h : (s.2.map nK).all (intK n) = true := by
    rw [List.all_eq_true]
    intro k hk
    obtain ⟨i, _, rfl⟩ := List.mem_map.mp hk
    cases n <;> rfl
  show (intK (n + 1) (.num (tI s.1)) && (intK (n + 1) (.tup (s.2.map nK)) && true)) = true
  rw [show intK (n + 1) (.tup (s.2.map nK)) = true from h]
  rfl
theorem keyV_nums (u : Vw) : intK 8 (keyV u) = true := by
  show (u.map keyS).all (intK 7) = true
  rw [List.all_eq_true]
  intro k hk
  obtain ⟨s, _, rfl⟩ := List.mem_map.mp hk
  exact keyS_nums 5 s
theorem keyS_inj {a b : Sgt} (h : keyS a = keyS b) : a = b := (sgt_eqv a b).mp (by rw [← keyS_data, ← keyS_data, h, keyS_data]; exact (sgt_eqv b b).mpr rfl)
theorem keyV_inj {a b : Vw} (h : keyV a = keyV b) : a = b := (vw_eqv a b).mp (by rw [← keyV_data, ← keyV_data, h, keyV_data]; exact (vw_eqv b b).mpr rfl)
end K61

end

section
set_option linter.all false
set_option maxRecDepth 100000
set_option maxHeartbeats 4000000
/-! K61, walk 14: views_in. -/
namespace K61
open PySem PySem.Spec PyProof.Rows L2
section
variable {P : Program} {w : World} {K : PySem.W.Frag} {mg : Str → Option Value} {base : Heap} {cS cQ cT : Addr}
/-! ### lists of keys -/
theorem keys_of {β : Type} {H : Hp} (kf : β → NestedKey) (ht : ∀ b, ∃ ds, (kf b).data = .tuple ds) (hn : ∀ b, intK 8 (kf b) = true) : ∀ (zs : List V) (l : List β), Each (fun y b => Dp K H y (kf b).data) zs l →
    ∃ ks : List (Addr × NestedKey), (ks.map fun p => V.ref p.1) = zs ∧ ks.map (·.2) = l.map kf ∧ ∀ p ∈ ks, Ky K H p.1 p.2
  | [], [], _ => ⟨[], rfl, rfl, fun p hp => by cases hp⟩
  | z :: zs, b :: l, h => by
    obtain ⟨ks, e1, e2, e3⟩ := keys_of kf ht hn zs l ⟨Nat.succ.inj h.1, fun i y u hy hu => h.2 (i + 1) y u (by simpa using hy) (by simpa using hu)⟩
    have hd : Dp K H z (kf b).data := h.2 0 z b rfl rfl
    obtain ⟨ds, ed⟩ := ht b
    rw [ed] at hd
    cases hd with
    | @tup a _ _ h1 h2 =>
      refine ⟨(a, kf b) :: ks, by rw [List.map_cons, e1], by rw [List.map_cons, List.map_cons, e2], fun p hp => ?_⟩
      rcases List.mem_cons.mp hp with q | q
      · rw [q]
        exact ⟨by rw [ed]; exact .tup h1 h2, hn b⟩
      · exact e3 p q
  | [], _ :: _, h => by cases h.1
  | _ :: _, [], h => by cases h.1
theorem keys_back {β : Type} (kf : β → NestedKey) : ∀ L : List (Addr × NestedKey), (∀ p ∈ L, ∃ b, p.2 = kf b) → ∃ u : List β, L.map (·.2) = u.map kf
  | [], _ => ⟨[], rfl⟩
  | p :: L, h => by
    obtain ⟨b, e⟩ := h p List.mem_cons_self
    obtain ⟨u, e2⟩ := keys_back kf L fun q hq => h q (List.mem_cons_of_mem _ hq)
    exact ⟨b :: u, by rw [List.map_cons, List.map_cons, e, e2]⟩
theorem tup_keys {β : Type} {H : Hp} {t : Addr} (kf : β → NestedKey) {L : List (Addr × NestedKey)} {u : List β} (ht : H t = some (.tup (L.map fun p => V.ref p.1))) (hk : ∀ p ∈ L, Dp K H (.ref p.1) p.2.data) (e : L.map (·.2) = u.map kf) : Dp K H (.ref t) (.tuple (u.map fun b => (kf b).data)) := by
  refine .tup (.inl (.inl ht)) (dpAll_of ?_ fun i v d hv hd => ?_)
  · have := congrArg List.length e
    rw [List.length_map, List.length_map] at this
    rw [List.length_map, List.length_map]
    exact this
  · obtain ⟨p, hp, rfl⟩ := map_at hv
    have h1 : (L.map (·.2))[i]? = (u.map kf)[i]? := by rw [e]
    rw [List.getElem?_map, List.getElem?_map, hp] at h1
    rw [List.getElem?_map] at hd
    cases eu : u[i]? with
    | none => rw [eu] at h1; cases h1
    | some b =>
      rw [eu] at h1 hd
      have e1 := Option.some.inj h1
      have e2 := Option.some.inj hd
      have q := hk p (List.mem_of_getElem? hp)
      rw [show p.2 = kf b from e1] at q
      rw [← e2]
      exact q
/-- what sorted(set(..)) has made of keys kf b, b in l -/
theorem set_sorted {β : Type} (kf : β → NestedKey) (inj : ∀ a b, kf a = kf b → a = b) {ks L L' : List (Addr × NestedKey)} {l : List β} (ek : ks.map (·.2) = l.map kf) (sub : ∀ p ∈ L, p ∈ ks) (all : ∀ p ∈ ks, p.2 ∈ L.map (·.2)) (pm : L'.Perm L) (nd : (L'.map (·.2)).Nodup) (pw : L'.Pairwise fun q r => PySem.W.dataLt (kd r) (kd q) = false) :
    ∃ u : List β, L'.map (·.2) = u.map kf ∧ u.Nodup ∧ (u.Pairwise fun a b => PySem.W.dataLt (kf b).data (kf a).data = false) ∧ ∀ b, b ∈ u ↔ b ∈ l := by
  have hk : ∀ p ∈ ks, ∃ b ∈ l, p.2 = kf b := fun p hp => by
    have : p.2 ∈ ks.map (·.2) := List.mem_map.mpr ⟨p, hp, rfl⟩
    rw [ek] at this
    obtain ⟨b, hb, e⟩ := List.mem_map.mp this
    exact ⟨b, hb, e.symm⟩
  obtain ⟨u, eu⟩ := keys_back kf L' fun p hp => let ⟨b, _, e⟩ := hk p (sub p (pm.mem_iff.mp hp)); ⟨b, e⟩
  refine ⟨u, eu, ?_, ?_, fun b => ?_⟩
  · rw [eu] at nd
    exact (List.pairwise_map.mp nd).imp fun h e => h (by rw [e])
  · have h2 : (L'.map (·.2)).Pairwise fun q r => PySem.W.dataLt r.data q.data = false := List.pairwise_map.mpr pw
    rw [eu] at h2
    exact List.pairwise_map.mp h2
  · constructor
    · intro hb
      have h1 : kf b ∈ L'.map (·.2) := by rw [eu]; exact List.mem_map.mpr ⟨b, hb, rfl⟩
      obtain ⟨p, hp, e⟩ := List.mem_map.mp h1
      obtain ⟨c, hc, e2⟩ := hk p (sub p (pm.mem_iff.mp hp))
      rw [inj b c (e.symm.trans e2)]
      exact hc
    · intro hb
      have h1 : kf b ∈ ks.map (·.2) := by rw [ek]; exact List.mem_map.mpr ⟨b, hb, rfl⟩
      obtain ⟨p, hp, e⟩ := List.mem_map.mp h1
      have h2 := all p hp
      have h3 : p.2 ∈ L'.map (·.2) := (pm.map (·.2)).mem_iff.mpr h2
      rw [eu, show p.2 = kf b from e] at h3
      obtain ⟨c, hc, e2⟩ := List.mem_map.mp h3
      rw [← inj c b e2]
      exact hc
theorem keyS_tup (s : Sgt) : ∃ ds, (keyS s).data = .tuple ds := ⟨_, by rw [keyS_data]; rfl⟩
theorem keyV_tup (u : Vw) : ∃ ds, (keyV u).data = .tuple ds := ⟨_, by rw [keyV_data]; rfl⟩
theorem kd_alike {β : Type} {kf : β → NestedKey} {ks L : List (Addr × NestedKey)} {l : List β} (ek : ks.map (·.2) = l.map kf) (al : ∀ a b, PySem.W.alike (kf a).data (kf b).data = true) (sub : ∀ p ∈ L, p ∈ ks) : PySem.W.AllAlike (L.map kd) ∧ ∀ d ∈ L.map kd, ∃ b ∈ l, d = (kf b).data := by
  have h : ∀ d ∈ L.map kd, ∃ b ∈ l, d = (kf b).data := fun d hd => by
    obtain ⟨p, hp, rfl⟩ := List.mem_map.mp hd
    have : p.2 ∈ ks.map (·.2) := List.mem_map.mpr ⟨p, sub p hp, rfl⟩
    rw [ek] at this
    obtain ⟨b, hb, e⟩ := List.mem_map.mp this
    exact ⟨b, hb, congrArg NestedKey.data e.symm⟩
  refine ⟨fun d hd d' hd' => ?_, h⟩
  obtain ⟨b, _, rfl⟩ := h d hd
  obtain ⟨b', _, rfl⟩ := h d' hd'
  exact al b b'
theorem if_tied {σ : L2.St} {H : Hp} {Kk : VK} {x b : Bool} (hx : x = !b) (h : Kk (.int (tI b)) H) : if x = true then tC (.int 0) σ H Kk else tC (.int 1) σ H Kk := by
  subst hx
  cases b
  · exact h
  · exact h
theorem bit_zero (m j : Nat) : decide (V.int (Builtin.bitAnd (m : Int) ((2 ^ j : Nat) : Int)) = V.int 0) = !m.testBit j := by
  rw [and_nat]
  have e : m &&& 2 ^ j = if m.testBit j = true then 2 ^ j else 0 := Nat.eq_of_testBit_eq fun i => by
    rw [Nat.testBit_and, Nat.testBit_two_pow]
    by_cases c : j = i
    · subst c
      cases h : m.testBit j with
      | true => simp
      | false => simp
    · cases h : m.testBit j with
      | true => simp [Nat.testBit_two_pow, c]
      | false => simp [c]
  rw [e]
  cases m.testBit j with
  | false => rfl
  | true =>
    have h0 : 0 < 2 ^ j := Nat.two_pow_pos j
    rw [if_pos rfl]
    have h : ¬ V.int ((2 ^ j : Nat) : Int) = V.int 0 := fun z => by
      have := V.int.inj z
      omega
    rw [decide_eq_false h]
    rfl
theorem sc_views_in : FnScope ["town", "bits", "masks", "everyone", "found", "one", "sights", "other", "rest", "tied"] ["town"] (defScope (top 50)) := ⟨rfl, rfl, rfl, by decide +kernel, rfl, by decide +kernel, by decide +kernel⟩
def spViews (K : PySem.W.Frag) (cT : Addr) : Sp := fun vs H Q _ => ∃ (v : V) (n : Nat) (ts : List (Nat × Nat)), vs = [v] ∧ TownAt K cT H v n ts ∧ 1 ≤ n ∧ n ≤ 40 ∧ ts.length ≤ 1000 ∧ (∀ p ∈ ts, p.1 < n ∧ p.2 < n) ∧
  ∀ t us H', Same H H' → Dp K H' t (.tuple (us.map vwD)) → VwsOk us → (∀ u, u ∈ us ↔ ∃ a, a < n ∧ u = view n (adjP ts) a) → Q t H'
theorem c_views_in (e : Ev w K mg cS cQ cT) : C8.Cal P w K mg base 2 "views_in" (spViews K cT) [] := by
  obtain ⟨_, _, mT⟩ := e.m_Town
  have clT := mT.cls
  have c_masks_of := c_masks_of (P := P) (base := base) e
  have c_sight_of := c_sight_of (P := P) (base := base) e
  refine calD e.d_views_in (fun _ _ _ _ _ _ us hl => match us, hl with | [_], _ => rfl) sc_views_in (fun vs H Q E h => ?_) fun f cdv A outer s H vs Q E hr h => ?_
  · obtain ⟨v, _, _, rfl, _⟩ := h; rfl
  obtain ⟨v, n, ts, rfl, hT, hn1, hn, hz, hb, hQ⟩ := h
  obtain ⟨a, dx, t, rfl, ha, htd⟩ := id hT
  refine ⟨_, (pss_cons (ps_asg (C8.pe_c c_masks_of hr (by first | decide | omega) rfl (pa_cons (pv 0) pa_nil)) (pg_tup rfl (pgs_cons (pg_name (i := 1) sc_views_in.nd rfl (.inl rfl)) (pgs_cons (pg_name (i := 2) sc_views_in.nd rfl (.inl rfl)) pgs_nil))))
    (pss_cons (ps_par (i := 3) (j := 4) rfl sc_views_in.nd rfl rfl (by decide) rfl rfl (pa_cons (pe_callB (cr_sum rfl) rfl e.n_sum (by decide +kernel) (pa_cons (pv 1) pa_nil)) (pa_cons (pe_lst pa_nil) pa_nil)) rfl)
    (pss_cons (ps_for PassesOwn.never rfl (pi_range1 rfl e.n_range (pa_cons (pe_fld (pv 0) rfl) pa_nil)) (pg_name (i := 5) sc_views_in.nd rfl (.inl rfl))
    (pss_cons (ps_set (i := 6) sc_views_in.nd rfl (.inl rfl) (pe_lst pa_nil))
      (pss_cons (ps_for PassesOwn.never rfl (pi_range1 rfl e.n_range (pa_cons (pe_fld (pv 0) rfl) pa_nil)) (pg_name (i := 7) sc_views_in.nd rfl (.inl rfl))
      (pss_one (ps_if (pt_cmpR op_ne (pv 7) (pv 5) (nomark _)) (pss_cons (ps_set (i := 8) sc_views_in.nd rfl (.inl rfl) (pe_op op_sub (pe_op op_sub (pv 3) (pe_ix ix_list (pv 1) (pv 5) (fun _ _ => rfl))) (pe_ix ix_list (pv 1) (pv 7) (fun _ _ => rfl))))
          (pss_cons (ps_set (i := 9) sc_views_in.nd rfl (.inl rfl) (pe_ifExp (pt_cmpR op_eq (pe_op op_and (pe_ix ix_list (pv 2) (pv 5) (fun _ _ => rfl)) (pe_ix ix_list (pv 1) (pv 7) (fun _ _ => rfl))) pe_int (nomark _)) pe_int pe_int))
          (pss_one (ps_expr (pe_bm PySem.F.plainAttrs_list PySem.F.slot_list_append PySem.F.type_list_append mt_append (pv 6) (pa_cons (C8.pe_c c_sight_of hr (by first | decide | omega) rfl (pa_cons (pv 8) (pa_cons (pv 9) (pa_cons (pe_ix ix_list (pv 2) (pv 5) (fun _ _ => rfl)) (pa_cons (pe_ix ix_list (pv 2) (pv 7) (fun _ _ => rfl)) pa_nil))))) pa_nil)))))) pss_nil)))
      (pss_one (ps_expr (pe_bm PySem.F.plainAttrs_list PySem.F.slot_list_append PySem.F.type_list_append mt_append (pv 4) (pa_cons (pe_callTy call_tuple_of rfl e.n_tuple (by decide +kernel) (pa_cons (pe_callB (cr_sortedK rfl (hu64 hr)) rfl e.n_sorted (by decide +kernel) (pa_cons (pe_callTy (cr_setOf rfl (hu64 hr)) rfl e.n_set (by decide +kernel) (pa_cons (pv 6) pa_nil)) pa_nil)) pa_nil)) pa_nil)))))))
    (pss_one (ps_ret (pe_callTy call_tuple_of rfl e.n_tuple (by decide +kernel) (pa_cons (pe_callB (cr_sortedK rfl (hu64 hr)) rfl e.n_sorted (by decide +kernel) (pa_cons (pe_callTy (cr_setOf rfl (hu64 hr)) rfl e.n_set (by decide +kernel) (pa_cons (pv 4) pa_nil)) pa_nil)) pa_nil))))))), ?_⟩
  refine ⟨_, rfl, _, n, ts, rfl, hT, by omega, hz, hb, fun r B M ms H1 s1 hr1 hB1 hM1 hml hbit => ⟨r, _, rfl, .inl (.inl hr1), rfl, _, _, rfl, _, _, rfl, rfl, ?_⟩⟩
  have hbits : bitsL n = ((List.range n).map fun i => ((2 ^ i : Nat) : Int)).map V.int := by
    unfold bitsL
    rw [List.map_map]
    rfl
  refine ⟨_, rfl, B, (List.range n).map fun i => ((2 ^ i : Nat) : Int), rfl, .inl (.inl (by rw [hB1, hbits])), Nat.zero_le _, fun F hF => ⟨_, _, rfl, ?_⟩⟩
  rw [sum_bits]
  have s2 := same2 (o := .lst []) s1 hF
  have hF0 : H F = none := s1.free hF
  have hFB : B ≠ F := ne_of_none hB1 hF
  have hFM : M ≠ F := ne_of_none hM1 hF
  have hnn : (n : Int).toNat = n := Int.toNat_natCast n
  refine ⟨_, rfl, a, _, _, _, _, rfl, s2 _ _ ha, clT, e.f_Town _ (by simp), rfl, (n : Int), rfl, by omega, by omega, ?_⟩
  rw [hnn]
  refine for_it (walk_rangeN (n := n)) (fun i σ' H' => (∃ t5 t6 t7 t8 t9, σ' = [some (.ref a), some (.ref B), some (.ref M), some (nV (full n)), some (.ref F), t5, t6, t7, t8, t9]) ∧ Same H H' ∧ H' B = some (.lst (bitsL n)) ∧ H' M = some (.lst (ms.map nV)) ∧
      ∃ ys, H' F = some (.lst ys) ∧ Each (fun y x => Dp K H' y (keyV (view n (adjP ts) x)).data) ys (List.range i))
    ⟨⟨none, none, none, none, none, rfl⟩, s2, by rw [upd_ne hFB]; exact hB1, by rw [upd_ne hFM]; exact hM1, [], upd_same, .nil⟩ (fun _ _ _ _ _ => trivial) (fun i y σ' H2 H3 hi p hY => ?_) fun σ' H' p => ?_
  · obtain ⟨rfl, rfl⟩ := hY
    obtain ⟨⟨t5, t6, t7, t8, t9, rfl⟩, s3, hB3, hM3, ys, hF3, hys⟩ := p
    refine ⟨Nat.zero_le _, fun S hS => ?_⟩
    have s4 := new1 (o := .lst []) hS
    have gm : ms[i]? = some ms[i] := List.getElem?_eq_getElem (by omega)
    have gi : (bitsL n)[i]? = some (nV (2 ^ i)) := by unfold bitsL; rw [List.getElem?_map, List.getElem?_range hi] <;> rfl
    refine ⟨_, rfl, a, _, _, _, _, rfl, Same.tr s3 s4 _ _ ha, clT, e.f_Town _ (by simp), rfl, (n : Int), rfl, by omega, by omega, ?_⟩
    rw [hnn]
    refine for_it (walk_rangeN (n := n)) (fun j σ' H' => (∃ t7 t8 t9, σ' = [some (.ref a), some (.ref B), some (.ref M), some (nV (full n)), some (.ref F), some (nV i), some (.ref S), t7, t8, t9]) ∧ Same H3 H' ∧
        ∃ zs, H' S = some (.lst zs) ∧ Each (fun y x => Dp K H' y (keyS (sight n (adjP ts) i x)).data) zs ((List.range j).filter fun x => decide (x ≠ i)))
      ⟨⟨_, _, _, rfl⟩, s4, [], upd_same, .nil⟩ (fun _ _ _ _ _ => trivial) (fun j y σ' H4 H5 hj p hY => ?_) fun σ' H' p => ?_
    · obtain ⟨rfl, rfl⟩ := hY
      obtain ⟨⟨t7, t8, t9, rfl⟩, s5, zs, hS5, hzs⟩ := p
      have hlz : zs.length ≤ 40 := by
        rw [hzs.1]
        have := List.length_filter_le (fun x => decide (x ≠ i)) (List.range j)
        rw [List.length_range] at this
        omega
      refine ⟨_, rfl, _, rfl, rfl, _, rfl, ?_⟩
      by_cases c : j = i
      · subst c
        refine ite_no (by simp) ⟨⟨_, _, _, rfl⟩, s5, zs, hS5, ?_⟩
        rw [List.range_succ, List.filter_append]
        simpa using hzs
      · have c1 : (!decide (nV j = nV i)) = true := by
          rw [decide_eq_false fun z => c (by have := V.int.inj z; omega)]
          rfl
        refine ite_yes c1 ?_
        have gj : (bitsL n)[j]? = some (nV (2 ^ j)) := by unfold bitsL; rw [List.getElem?_map, List.getElem?_range hj] <;> rfl
        have gmj : ms[j]? = some ms[j] := List.getElem?_eq_getElem (by omega)
        have hB5 := s5 _ _ hB3
        have hM5 := s5 _ _ hM3
        refine ⟨_, rfl, _, rfl, _, rfl, B, _, _, _, rfl, rfl, .inl (.inl hB5), atN gi, _, _, rfl, rfl, _, rfl, _, rfl, B, _, _, _, rfl, rfl, .inl (.inl hB5), atN gj, _, _, rfl, rfl, ?_⟩
        dsimp only
        rw [rest_sub hi hj c]
        refine ⟨_, rfl, _, rfl, M, _, _, nV ms[i], rfl, rfl, .inl (.inl hM5), atN (by rw [List.getElem?_map, gm] <;> rfl), _, rfl, _, rfl, B, _, _, _, rfl, rfl, .inl (.inl hB5), atN gj, _, _, rfl, rfl, rfl, _, rfl, ?_⟩
        refine if_tied ((bit_zero ms[i] j).trans (congrArg not (hbit i _ gm j))) ?_
        refine ⟨_, rfl, .inl ⟨rfl, _, .inl (.inl hS5)⟩, _, rfl, _, rfl, _, rfl, _, rfl, M, _, _, nV ms[i], rfl, rfl, .inl (.inl hM5), atN (by rw [List.getElem?_map, gm] <;> rfl), _, rfl, _, rfl, M, _, _, nV ms[j], rfl, rfl, .inl (.inl hM5), atN (by rw [List.getElem?_map, gmj] <;> rfl), ?_⟩
        refine ⟨restN n i j, ms[i], ms[j], adjP ts i j, rfl, fun u H6 s6 hu => ⟨S, zs, u, rfl, rfl, s6 _ _ hS5, smallLt (m := 40) hlz, ⟨_, _, _, rfl⟩, same3 hS (Same.tr s5 s6), zs ++ [u], upd_same, ?_⟩⟩
        have sb := sq_but (K := K) (s6 _ _ hS5) (SameBut.upd (p := S) (o := .lst (zs ++ [u])))
        rw [List.range_succ, List.filter_append]
        refine .app (hzs.mono fun y x d => dp_only sb _ _ (by rw [keyS_data]; exact sgtD_only _) (dp_same s6 _ _ d)) ?_
        rw [show [j].filter (fun x => decide (x ≠ i)) = [j] by simp [c]]
        refine .cons ?_ .nil
        rw [keyS_data]
        have es : sight n (adjP ts) i j = (adjP ts i j, lotsN (restN n i j) ms[i] ms[j]) := by
          unfold sight
          rw [lots_bits (fun c _ => hbit i _ gm c) fun c _ => hbit j _ gmj c]
        rw [es]
        exact dp_only sb _ _ (sgtD_only _) hu
    · obtain ⟨⟨t7, t8, t9, rfl⟩, s5, zs, hS5, hzs⟩ := p
      have hF5 := s5 _ _ hF3
      have hlz : zs.length ≤ 40 := by
        rw [hzs.1]
        have := List.length_filter_le (fun x => decide (x ≠ i)) (List.range n)
        rw [List.length_range] at this
        omega
      obtain ⟨ks, ek1, ek2, ek3⟩ := keys_of keyS keyS_tup (fun s => keyS_nums 6 s) zs (((List.range n).filter fun x => decide (x ≠ i)).map fun x => sight n (adjP ts) i x) (Each.map (R := fun y (s : Sgt) => Dp K H' y (keyS s).data) hzs)
      have hlk : ks.length = zs.length := by rw [← ek1, List.length_map]
      refine ⟨_, rfl, .inl ⟨rfl, _, .inl (.inl hF5)⟩, _, rfl, S, ks, rfl, .inl (.inl (by rw [ek1]; exact hS5)), ek3, by omega, fun X L hX sub all hlen => ?_⟩
      have hts : ∀ p ∈ ks, tupOnly p.2.data = true := fun p hp => by
        have : p.2 ∈ ks.map (·.2) := List.mem_map.mpr ⟨p, hp, rfl⟩
        rw [ek2] at this
        obtain ⟨b, _, e1⟩ := List.mem_map.mp this
        rw [← e1, keyS_data]
        exact sgtD_only _
      obtain ⟨hal, hall⟩ := kd_alike ek2 (fun a b => by rw [keyS_data, keyS_data]; exact sgtD_alike a b) sub
      refine ⟨X, L, rfl, upd_same, fun p hp => ky_to (same_sq (new1 hX)) (hts p (sub p hp)) (ek3 p (sub p hp)), hal, .inl (.inl fun d hd => ?_), fun L' p pm nd len pw hp => ?_⟩
      · obtain ⟨b, _, e1⟩ := hall d hd
        exact ⟨_, _, by rw [e1, keyS_data]; rfl⟩
      refine ⟨p, _, rfl, .inl ⟨.inl (.inl upd_same), fun T hT' => ?_⟩⟩
      have s6 := same2 (o := .tup (L'.map fun q => V.ref q.1)) (same2 (o := .lst (L'.map fun q => V.ref q.1)) (new1 hX) hp) hT'
      obtain ⟨u, eu, und, upw, umem⟩ := set_sorted keyS (fun a b => keyS_inj) ek2 sub all pm nd pw
      have hv : u = view n (adjP ts) i := view_is (asc_of (fun a b => sgt_tri) und (upw.imp fun {a b} h => by rw [keyS_data, keyS_data] at h; exact h)) fun s => by
        rw [umem, List.mem_map]
        constructor
        · rintro ⟨b, hb', e1⟩
          have h1 := List.mem_filter.mp hb'
          exact ⟨b, List.mem_range.mp h1.1, by simpa using h1.2, e1⟩
        · rintro ⟨b, h1, h2, e1⟩
          exact ⟨b, List.mem_filter.mpr ⟨List.mem_range.mpr h1, by simpa using h2⟩, e1⟩
      have dT := tup_keys (K := K) keyS upd_same (fun q hq => (ky_to (same_sq s6) (hts q (sub q (pm.mem_iff.mp hq))) (ek3 q (sub q (pm.mem_iff.mp hq)))).dp) eu
      have dT2 := dT
      rw [show (u.map fun b => (keyS b).data) = u.map sgtD from List.map_congr_left fun b _ => keyS_data b, hv] at dT2
      have hF6 := s6 _ _ hF5
      have hly : ys.length ≤ 40 := by rw [hys.1, List.length_range]; omega
      refine ⟨F, ys, .ref T, rfl, rfl, hF6, smallLt (m := 40) hly, ⟨_, _, _, _, _, rfl⟩, same3 hF0 (Same.tr s3 (Same.tr s5 s6)), ?_, ?_, ys ++ [.ref T], upd_same, ?_⟩
      · rw [upd_ne hFB]
        exact s6 _ _ (s5 _ _ hB3)
      · rw [upd_ne hFM]
        exact s6 _ _ (s5 _ _ hM3)
      · have sb := sq_but (K := K) hF6 (SameBut.upd (p := F) (o := .lst (ys ++ [.ref T])))
        rw [List.range_succ]
        refine .app (hys.mono fun y x d => dp_only sb _ _ (by rw [keyV_data]; exact vwD_only _) (dp_same (Same.tr s5 s6) _ _ d)) (.cons ?_ .nil)
        rw [keyV_data]
        exact dp_only sb _ _ (vwD_only _) dT2
  · obtain ⟨⟨t5, t6, t7, t8, t9, rfl⟩, s3, hB3, hM3, ys, hF3, hys⟩ := p
    have hly : ys.length = n := by rw [hys.1, List.length_range]
    obtain ⟨ks, ek1, ek2, ek3⟩ := keys_of keyV keyV_tup keyV_nums ys ((List.range n).map fun x => view n (adjP ts) x) (Each.map (R := fun y (s : Vw) => Dp K H' y (keyV s).data) hys)
    have hlk : ks.length = n := by rw [← hly, ← ek1, List.length_map]
    refine ⟨_, rfl, F, ks, rfl, .inl (.inl (by rw [ek1]; exact hF3)), ek3, by omega, fun X L hX sub all hlen => ?_⟩
    have hts : ∀ p ∈ ks, tupOnly p.2.data = true := fun p hp => by
      have : p.2 ∈ ks.map (·.2) := List.mem_map.mpr ⟨p, hp, rfl⟩
      rw [ek2] at this
      obtain ⟨b, _, e1⟩ := List.mem_map.mp this
      rw [← e1, keyV_data]
      exact vwD_only _
    obtain ⟨hal, hall⟩ := kd_alike ek2 (fun a b => by rw [keyV_data, keyV_data]; exact vwD_alike a b) sub
    have hso : PySem.W.Sortable (L.map kd) ∨ L.length < 2 := by
      by_cases c : n = 1
      · right; omega
      · left; left
        intro d hd
        obtain ⟨b, hb', e1⟩ := hall d hd
        obtain ⟨x, hx, rfl⟩ := List.mem_map.mp hb'
        have hxn := List.mem_range.mp hx
        have hne : ∃ g, g ∈ view n (adjP ts) x := by
          by_cases c0 : x = 0
          · exact ⟨_, mem_view.mpr ⟨1, by omega, by omega, rfl⟩⟩
          · exact ⟨_, mem_view.mpr ⟨0, by omega, by omega, rfl⟩⟩
        obtain ⟨g, hg⟩ := hne
        cases e2 : view n (adjP ts) x with
        | nil => rw [e2] at hg; cases hg
        | cons g0 gr => exact ⟨_, _, by rw [e1, keyV_data, e2]; rfl⟩
    refine ⟨X, L, rfl, upd_same, fun p hp => ky_to (same_sq (new1 hX)) (hts p (sub p hp)) (ek3 p (sub p hp)), hal, hso, fun L' p pm nd len pw hp => ?_⟩
    refine ⟨p, _, rfl, .inl ⟨.inl (.inl upd_same), fun T hT' => ?_⟩⟩
    have s6 := same2 (o := .tup (L'.map fun q => V.ref q.1)) (same2 (o := .lst (L'.map fun q => V.ref q.1)) (new1 hX) hp) hT'
    obtain ⟨u, eu, und, upw, umem⟩ := set_sorted keyV (fun a b => keyV_inj) ek2 sub all pm nd pw
    have uasc : u.Pairwise fun a b => PySem.W.dataLt (vwD a) (vwD b) = true := asc_of (fun a b => vw_tri) und (upw.imp fun {a b} h => by rw [keyV_data, keyV_data] at h; exact h)
    have um : ∀ b, b ∈ u ↔ ∃ a, a < n ∧ b = view n (adjP ts) a := fun b => by
      rw [umem, List.mem_map]
      constructor
      · rintro ⟨x, hx, e1⟩
        exact ⟨x, List.mem_range.mp hx, e1.symm⟩
      · rintro ⟨x, hx, e1⟩
        exact ⟨x, List.mem_range.mpr hx, e1.symm⟩
    have dT := tup_keys (K := K) keyV upd_same (fun q hq => (ky_to (same_sq s6) (hts q (sub q (pm.mem_iff.mp hq))) (ek3 q (sub q (pm.mem_iff.mp hq)))).dp) eu
    rw [show (u.map fun b => (keyV b).data) = u.map vwD from List.map_congr_left fun b _ => keyV_data b] at dT
    have hul : u.length ≤ 40 := by
      have h1 := congrArg List.length eu
      rw [List.length_map, List.length_map, pm.length_eq] at h1
      omega
    have hu1 : 1 ≤ u.length := by
      have h1 := (um _).mpr ⟨0, by omega, rfl⟩
      exact List.length_pos_of_mem h1
    exact hQ _ u _ (Same.tr s3 s6) dT ⟨hu1, hul, fun b hb' => by
      obtain ⟨x, _, rfl⟩ := (um b).mp hb'
      exact view_ok n (adjP ts) x, uasc⟩ um
theorem sc_views_of_town : FnScope ["town"] ["town"] (defScope (top 51)) := ⟨rfl, rfl, rfl, by decide +kernel, rfl, by decide +kernel, by decide +kernel⟩
theorem c_views_of_town (e : Ev w K mg cS cQ cT) : C8.Cal P w K mg base 3 "views_of_town" (spViews K cT) [] := by
  have c_need_town := c_need_town (P := P) (base := base) e
  have c_views_in := c_views_in (P := P) (base := base) e
  refine calD e.d_views_of_town (fun _ _ _ _ _ _ us hl => match us, hl with | [_], _ => rfl) sc_views_of_town (fun vs H Q E h => ?_) fun f cdv A outer s H vs Q E hr h => ?_
  · obtain ⟨v, _, _, rfl, _⟩ := h; rfl
  obtain ⟨v, n, ts, rfl, hT, rest⟩ := h
  obtain ⟨a, dx, t, rfl, ha, htd⟩ := id hT
  refine ⟨_, (pss_cons (ps_expr (C8.pe_c c_need_town hr (by first | decide | omega) rfl (pa_cons (pv 0) pa_nil)))
    (pss_one (ps_ret (C8.pe_c c_views_in hr (by first | decide | omega) rfl (pa_cons (pv 0) pa_nil))))), ?_⟩
  exact ⟨_, rfl, a, _, _, _, rfl, ha, _, rfl, _, n, ts, rfl, hT, rest⟩
end
end K61

end

section
set_option linter.all false
set_option maxRecDepth 100000
set_option maxHeartbeats 4000000
/-! K61, walk 15: answer; the jar. -/
namespace K61
open PySem PySem.Spec PyProof.Rows L2
section
variable {P : Program} {w : World} {K : PySem.W.Frag} {mg : Str → Option Value} {base : Heap} {cS cQ cT : Addr}
theorem sc_answer : FnScope ["views", "question"] ["views", "question"] (defScope (top 60)) := ⟨rfl, rfl, rfl, by decide +kernel, rfl, by decide +kernel, by decide +kernel⟩
def spAnswer (K : PySem.W.Frag) (cQ : Addr) : Sp := fun vs H Q _ => ∃ (v u : V) (us : List Vw) (q : Qn), vs = [v, u] ∧ Dp K H v (.tuple (us.map vwD)) ∧ VwsOk us ∧ QuAt K cQ H u q ∧ q.free = [] ∧ q.looks ≤ 3 ∧ q.size ≤ 40 ∧ ∀ H', Same H H' → Q (.bl (hb us q .zero fun _ => 0)) H'
theorem c_answer (e : Ev w K mg cS cQ cT) : C8.Cal P w K mg base 62 "answer" (spAnswer K cQ) [] := by
  have c_are_views := c_are_views (P := P) (base := base) e
  have c_need_question := c_need_question (P := P) (base := base) e
  have c_need_closed := c_need_closed (P := P) (base := base) e
  have c_fixed := c_fixed (P := P) (base := base) e 5
  have c_holds_by := c_holds_by (P := P) (base := base) e 60
  obtain ⟨aN, bN, hN, tN, tB⟩ := e.t_NOBODY
  have g_NOBODY : GV mg "NOBODY" (.ref aN) := ⟨_, hN, rfl⟩
  have clQ := e.m_Question.cls
  refine calD e.d_answer (fun _ _ _ _ _ _ us hl => match us, hl with | [_, _], _ => rfl) sc_answer (fun vs H Q E h => ?_) fun f cdv A outer s H vs Q E hr h => ?_
  · obtain ⟨v, u, _, _, rfl, _⟩ := h; rfl
  obtain ⟨v, u, us, q, rfl, hv, hok, hu, hf, hl, hz, hQ⟩ := h
  obtain ⟨b, dy, r, tx, fr, rfl, hb0, hq⟩ := id hu
  have hdl := q.deep_le
  refine ⟨_, (pss_cons (ps_if (pt_not (pt_val (C8.pe_c c_are_views hr (by first | decide | omega) rfl (pa_cons (pv 0) pa_nil)))) pss_never pss_nil)
    (pss_cons (ps_expr (C8.pe_c c_need_question hr (by first | decide | omega) rfl (pa_cons (pv 1) pa_nil)))
    (pss_cons (ps_expr (C8.pe_c c_need_closed hr (by first | decide | omega) rfl (pa_cons (pv 1) pa_nil)))
    (pss_one (ps_ret (C8.pe_c c_holds_by hr (by first | decide | omega) rfl (pa_cons (pe_fld (pv 1) rfl) (pa_cons (C8.pe_c c_fixed hr (by first | decide | omega) rfl (pa_cons (pv 0) pa_nil)) (pa_cons (C8.pe_gc rfl g_NOBODY) (pa_cons (pe_dnewK) pa_nil)))))))))), ?_⟩
  refine ⟨_, rfl, v, us, rfl, hv, hok, fun H1 s1 => ⟨true, rfl, ite_no rfl ?_⟩⟩
  refine ⟨_, rfl, b, _, _, _, rfl, s1 _ _ hb0, ?_⟩
  refine ⟨_, rfl, _, q, rfl, hu.to s1, hl, ?_⟩
  have hfl : flatD 4 (.tuple (us.map vwD)) = true := by
    show (decide ((us.map vwD).length ≤ 1000) && flatAll 3 (us.map vwD)) = true
    rw [vws_flat hok.2.2.1, List.length_map, decide_eq_true (by have := hok.2.1; omega : us.length ≤ 1000)]
    rfl
  refine ⟨_, rfl, b, _, _, _, _, rfl, s1 _ _ hb0, clQ, e.f_Question _ (by simp), rfl, _, rfl, 4, v, _, rfl, rfl, dp_same s1 _ _ hv, hfl, fun v' H2 s2 hv' d hd => ?_⟩
  have s3 := Same.tr s1 (same2 (o := .dK []) s2 hd)
  refine ⟨r, v', .ref aN, d, q, us, .zero, fun _ => 0, [], 0, rfl, hq.to (same_sq s3), by omega, dp_same (new1 hd) _ _ hv', hok, ⟨aN, bN, rfl, tN _, .tup (tB _) .nil⟩, by show 0 + 2 * q.looks ≤ 1000; omega, ⟨[], upd_same, Nat.le_refl 0, fun a ha => by cases ha⟩, by omega, (by rw [hf]; exact fun a ha => ha), fun H3 s4 => hQ H3 (Same.tr s3 s4)⟩
/-! ### the jar -/
def jarL (C : Addr) (k : Nat) (r : Int) : List V := [.ref C, .int (k : Int), .int r]
def JarAt (H : Hp) (j C : Addr) (cs : List Int) (m : Nat) : Prop := ∃ (k : Nat) (r : Int), H j = some (.lst (jarL C k r)) ∧ H C = some (.lst (cs.map V.int)) ∧ 0 ≤ r ∧ k ≤ m
theorem jar_ne {H : Hp} {j C : Addr} {cs : List Int} {m : Nat} (h : JarAt H j C cs m) : C ≠ j := fun e => by
  obtain ⟨k, r, h1, h2, _⟩ := h
  rw [e, h1] at h2
  injection h2 with h2
  injection h2 with h2
  cases cs with
  | nil => cases h2
  | cons c cs =>
    injection h2 with h2 _
    cases h2
theorem JarAt.same {H H' : Hp} {j C : Addr} {cs : List Int} {m m' : Nat} (h : JarAt H j C cs m) (s : Same H H') (hm : m ≤ m' := by omega) : JarAt H' j C cs m' :=
  let ⟨k, r, h1, h2, h3, h4⟩ := h
  ⟨k, r, s _ _ h1, s _ _ h2, h3, Nat.le_trans h4 hm⟩
theorem JarAt.put {H : Hp} {j C : Addr} {cs : List Int} {m m' : Nat} (h : JarAt H j C cs m) {k : Nat} {r : Int} (hr : 0 ≤ r) (hk : k ≤ m') : JarAt (upd H j (.lst (jarL C k r))) j C cs m' := by
  have ne := jar_ne h
  obtain ⟨_, _, _, h2, _⟩ := h
  exact ⟨k, r, upd_same, by rw [upd_ne ne]; exact h2, hr, hk⟩
theorem sc__law_jar : FnScope ["_law_script", "_law_cell"] ["_law_script"] (defScope (top 62)) := ⟨rfl, rfl, rfl, by decide +kernel, rfl, by decide +kernel, by decide +kernel⟩
def spJar (K : PySem.W.Frag) : Sp := fun vs H Q _ => ∃ (a : Addr) (ns : List Int), vs = [.ref a] ∧ SqL K H a (ns.map V.int) ∧ ns.length ≤ 63 ∧ ∀ j C cs H', Same H H' → JarAt H' j C cs 0 → Q (.ref j) H'
theorem cut_map (ns : List Int) (hi : Option Int) : ∃ cs : List Int, cutV (ns.map V.int) none hi = cs.map V.int ∧ cs.length ≤ ns.length := by
  unfold cutV
  refine ⟨(ns.drop (HT.sIx (ns.map V.int).length 0 none)).take (HT.sIx (ns.map V.int).length (ns.map V.int).length hi - HT.sIx (ns.map V.int).length 0 none), ?_, ?_⟩
  · rw [List.map_take, List.map_drop]
  · rw [List.length_take, List.length_drop]
    omega
theorem c__law_jar (e : Ev w K mg cS cQ cT) : C8.Cal P w K mg base 1 "_law_jar" (spJar K) [] := by
  refine calD e.d_law_jar (fun _ _ _ _ _ _ us hl => match us, hl with | [_], _ => rfl) sc__law_jar (fun vs H Q E h => ?_) fun f cdv A outer s H vs Q E hr h => ?_
  · obtain ⟨a, _, rfl, _⟩ := h; rfl
  obtain ⟨a, ns, rfl, ha, hz, hQ⟩ := h
  obtain ⟨cs, ec, hcl⟩ := cut_map ns (some 60)
  refine ⟨_, (pss_one (ps_ret (pe_lst (pa_cons (pe_lc (own := [("_law_cell", 1)]) (tt := tYes) rfl sc__law_jar.nd (pi_list (pe_slice sl_list (pv 0) po_none (po_some pe_int))) (blkOk_by (N := ["_law_script", "_law_cell"]) (sc := defScope (top 62)) (by decide +kernel)) (fun _ _ _ _ _ => (pg_name (i := 1) sc__law_jar.nd rfl (.inl rfl))) (fun _ _ _ _ _ => pts_nil) (fun _ _ _ _ _ => (pe_callTy call_int1 rfl e.n_int (by decide +kernel) (pa_cons (pv 1) pa_nil)))) (pa_cons pe_int (pa_cons pe_int pa_nil)))))), ?_⟩
  refine ⟨_, rfl, _, rfl, a, _, rfl, ha, fun p hp => ?_⟩
  rw [ec]
  have s1 := new1 (o := .lst (cs.map V.int)) hp
  refine ⟨p, rfl, ⟨_, .inl (.inl upd_same)⟩, fun C hC => ?_⟩
  refine lc_each (walk_listM cs V.int) hC (by omega) V.int (fun H' s' => .inl (.inl (s' _ _ upd_same))) (fun i c H2 ys Kk hc s2 _ hk => ⟨rfl, _, rfl, .inl ⟨_, rfl, hk _ (Same.refl _)⟩⟩) fun H2 s2 hC2 => ?_
  refine ⟨(by show 3 ≤ sizeLine; decide), fun j hj => ?_⟩
  have hne : C ≠ j := ne_of_none hC2 hj
  exact hQ j C cs _ (same2 (Same.tr s1 s2) hj) ⟨0, 0, upd_same, by rw [upd_ne hne]; exact hC2, Int.le_refl 0, Nat.le_refl 0⟩
end
end K61

end

section
set_option linter.all false
set_option maxRecDepth 100000
set_option maxHeartbeats 4000000
/-! K61, walk 16: draws. -/
namespace K61
open PySem PySem.Spec PyProof.Rows L2
section
variable {P : Program} {w : World} {K : PySem.W.Frag} {mg : Str → Option Value} {base : Heap} {cS cQ cT : Addr}
theorem fm_lo (a : Int) {n : Int} (h : 1 ≤ n) : 0 ≤ a.fmod n := Int.fmod_nonneg_of_pos a (by omega)
theorem fm_hi (a : Int) {n : Int} (h : 1 ≤ n) : a.fmod n < n := Int.fmod_lt_of_pos a (by omega)
theorem fd_lo {a n : Int} (h0 : 0 ≤ a) (h : 1 ≤ n) : 0 ≤ a.fdiv n := Int.fdiv_nonneg h0 (by omega)
theorem mix_room {x a : Int} (h0 : 0 ≤ x) (h1 : x < 2147483629) (ha : 0 ≤ a) (hb : a ≤ 4000) : (x * (2 * a + 1753) + 47279 * a * a + 30253).natAbs < 2 ^ 64 := by
  have e1 : 0 ≤ x * (2 * a + 1753) := Int.mul_nonneg h0 (by omega)
  have e2 : x * (2 * a + 1753) ≤ 2147483629 * 9753 := Int.mul_le_mul (by omega) (by omega) (by omega) (by omega)
  have e3 : 0 ≤ 47279 * a * a := Int.mul_nonneg (by omega) ha
  have e4 : 47279 * a * a ≤ 47279 * 4000 * 4000 := Int.mul_le_mul (by omega) hb ha (by omega)
  omega
theorem dpa_ints {H : Hp} : ∀ ns : List Int, DpAll K H (ns.map V.int) (ns.map PyData.int)
  | [] => .nil
  | n :: ns => .cons (.int n) (dpa_ints ns)
theorem ints_lay : ∀ ns : List Int, PyData.canLayAll0 (ns.map PyData.int) = true ∧ PyData.depthAll (ns.map PyData.int) ≤ 1
  | [] => ⟨rfl, by simp [PyData.depthAll]⟩
  | n :: ns => by
    have h := ints_lay ns
    refine ⟨?_, ?_⟩
    · simp only [List.map_cons, PyData.canLayAll0, PyData.canLay0, h.1, Bool.and_true]
    · have := h.2
      simp only [List.map_cons, PyData.depthAll, PyData.depth]
      omega
theorem ints_shaped (ns : List Int) : SeqAt.shaped (.list (ns.map PyData.int)) = true := by
  have h := ints_lay ns
  unfold SeqAt.shaped
  rw [Bool.and_eq_true_iff]
  refine ⟨h.1, ?_⟩
  have := h.2
  refine decide_eq_true ?_
  simp only [PyData.depth]
  omega
theorem sc__law_draw : FnScope ["_law_jar_here", "_law_many", "_law_rest", "_law_at", "_law_cell", "_law_mixed"] ["_law_jar_here", "_law_many"] (defScope (top 63)) := ⟨rfl, rfl, rfl, by decide +kernel, rfl, by decide +kernel, by decide +kernel⟩
def spDraw : Sp := fun vs H Q _ => ∃ (j C : Addr) (cs : List Int) (m : Nat) (many : Int), vs = [.ref j, .int many] ∧ JarAt H j C cs m ∧ m ≤ 4000 ∧ 1 ≤ many ∧ many ≤ 10000 ∧
  ∀ v H', SameBut j H H' → JarAt H' j C cs (m + 1) → 0 ≤ v → v < many → Q (.int v) H'
theorem c__law_draw (e : Ev w K mg cS cQ cT) : C8.Cal P w K mg base 1 "_law_draw" spDraw [] := by
  refine calD e.d_law_draw (fun _ _ _ _ _ _ us hl => match us, hl with | [_, _], _ => rfl) sc__law_draw (fun vs H Q E h => ?_) fun f cdv A outer s H vs Q E hr h => ?_
  · obtain ⟨j, C, cs, m, many, rfl, _⟩ := h; rfl
  obtain ⟨j, C, cs, m, many, rfl, hj, hm, h1, h2, hQ⟩ := h
  refine ⟨_, (pss_cons (ps_if (pt_cmpR op_gt (pe_ix ix_list (pv 0) pe_int (fun _ _ => rfl)) pe_int (nomark _)) (pss_cons (ps_set (i := 2) sc__law_draw.nd rfl (.inl rfl) (pe_callTy call_int1 rfl e.n_int (by decide +kernel) (pa_cons (pe_ix ix_list (pv 0) pe_int (fun _ _ => rfl)) pa_nil)))
      (pss_cons (ps_asg (pe_op op_fdivN (pv 2) (pv 1)) (pg_sub (pv 0) pe_int set_list))
      (pss_one (ps_ret (pe_op op_modN (pe_callTy call_int1 rfl e.n_int (by decide +kernel) (pa_cons (pv 2) pa_nil)) (pv 1)))))) pss_nil)
    (pss_cons (ps_set (i := 3) sc__law_draw.nd rfl (.inl rfl) (pe_ix ix_list (pv 0) pe_int (fun _ _ => rfl)))
    (pss_cons (ps_asg (pe_op op_add (pv 3) pe_int) (pg_sub (pv 0) pe_int set_list))
    (pss_cons (ps_set (i := 4) sc__law_draw.nd rfl (.inl rfl) (pe_op op_add (pe_op op_mul pe_int (pv 3)) pe_int))
    (C8.pss_cut (ps_if (pt_cmpR (op_neD hr.units) (pe_ix ix_list (pv 0) pe_int (fun _ _ => rfl)) (pe_lst pa_nil) (nomark _)) (pss_one (ps_set (i := 4) sc__law_draw.nd rfl (.inl rfl) (pe_ix ix_list (pe_ix ix_list (pv 0) pe_int (fun _ _ => rfl)) (pe_op op_modN (pe_callTy call_int1 rfl e.n_int (by decide +kernel) (pa_cons (pv 3) pa_nil)) (pe_callB call_len_seq rfl e.n_len (by decide +kernel) (pa_cons (pe_ix ix_list (pv 0) pe_int (fun _ _ => rfl)) pa_nil))) (fun _ _ => rfl)))) pss_nil)
    (pss_cons (ps_if (PW.pt (pw_and (pt_cmpR op_lt (pv 3) (pe_callB call_len_seq rfl e.n_len (by decide +kernel) (pa_cons (pe_ix ix_list (pv 0) pe_int (fun _ _ => rfl)) pa_nil)) (nomark _)) (pw_and1 (pt_cmpR op_ge (pe_callB call_abs rfl e.n_abs (by decide +kernel) (pa_cons (pv 4) pa_nil)) (pe_op op_pow pe_int pe_int) (nomark _))))) (pss_cons (ps_set (i := 2) sc__law_draw.nd rfl (.inl rfl) (pe_op op_add (pe_op op_mul pe_int (pe_op op_sub (pe_callB call_abs rfl e.n_abs (by decide +kernel) (pa_cons (pv 4) pa_nil)) (pe_op op_pow pe_int pe_int))) (pe_callTy call_int1 rfl e.n_int (by decide +kernel) (pa_cons (pe_cmpR op_lt (pv 4) pe_int (nomark _)) pa_nil))))
      (pss_cons (ps_asg (pe_op op_fdivN (pe_callTy call_int1 rfl e.n_int (by decide +kernel) (pa_cons (pv 2) pa_nil)) (pv 1)) (pg_sub (pv 0) pe_int set_list))
      (pss_one (ps_ret (pe_op op_modN (pe_callTy call_int1 rfl e.n_int (by decide +kernel) (pa_cons (pv 2) pa_nil)) (pv 1)))))) pss_nil)
    (pss_cons (ps_set (i := 5) sc__law_draw.nd rfl (.inl rfl) (pe_op op_modN (pe_callTy call_int1 rfl e.n_int (by decide +kernel) (pa_cons (pe_op op_pow (pe_op op_add (pe_op op_add (pe_op op_modN (pe_callTy call_int1 rfl e.n_int (by decide +kernel) (pa_cons (pv 4) pa_nil)) pe_int) (pe_op op_mul pe_int (pv 3))) pe_int) pe_int) pa_nil)) pe_int))
    (pss_cons (ps_set (i := 5) sc__law_draw.nd rfl (.inl rfl) (pe_op op_modN (pe_callTy call_int1 rfl e.n_int (by decide +kernel) (pa_cons (pe_op op_pow (pe_op op_add (pe_op op_add (pe_op op_mul (pv 5) (pe_op op_add (pe_op op_mul pe_int (pv 3)) pe_int)) (pe_op op_mul (pe_op op_mul pe_int (pv 3)) (pv 3))) pe_int) pe_int) pa_nil)) pe_int))
    (pss_one (ps_ret (pe_op op_modN (pe_callTy call_int1 rfl e.n_int (by decide +kernel) (pa_cons (pe_op op_fdivN (pv 5) pe_int) pa_nil)) (pv 1)))))))))))), ?_⟩
  obtain ⟨k, r, hk, hC, hr0, hkm⟩ := id hj
  have hne := jar_ne hj
  have hmany : many ≠ 0 := by omega
  have hsmall : many.natAbs < 1073741824 := by omega
  have fin : ∀ (k' : Nat) (r' v : Int) (H' : Hp), k' ≤ m + 1 → 0 ≤ r' → H' = upd H j (.lst (jarL C k' r')) → 0 ≤ v → v < many → Q (.int v) H' := fun k' r' v H' a b c d f => by
    subst c
    exact hQ v _ .upd (hj.put b a) d f
  refine ⟨_, rfl, j, _, _, _, rfl, rfl, .inl (.inl hk), rfl, _, _, rfl, rfl, _, rfl, ?_⟩
  refine ite2 (fun c => ?_) fun c => ?_
  · have c0 : 0 < r := of_decide_eq_true c
    refine ⟨_, rfl, j, _, _, _, rfl, rfl, .inl (.inl hk), rfl, .inl ⟨_, rfl, ?_⟩⟩
    refine ⟨_, rfl, _, rfl, _, _, rfl, rfl, ⟨hmany, hsmall⟩, ?_⟩
    refine ⟨_, rfl, j, _, 2, 2, rfl, rfl, hk, rfl, ?_⟩
    refine ⟨_, rfl, .inl ⟨_, rfl, _, rfl, _, _, rfl, rfl, hmany, ?_⟩⟩
    exact fin k (r.fdiv many) _ _ (by omega) (fd_lo hr0 h1) rfl (fm_lo _ h1) (fm_hi _ h1)
  · refine ⟨_, rfl, j, _, _, _, rfl, rfl, .inl (.inl hk), rfl, ?_⟩
    refine ⟨_, rfl, _, _, rfl, rfl, ?_⟩
    refine ⟨_, rfl, j, _, 1, 1, rfl, rfl, hk, rfl, ?_⟩
    have hk1 : (upd H j (.lst (jarL C (k + 1) r))) j = some (.lst (jarL C (k + 1) r)) := upd_same
    have hC1 : (upd H j (.lst (jarL C (k + 1) r))) C = some (.lst (cs.map V.int)) := by rw [upd_ne hne]; exact hC
    generalize eH : upd H j (.lst (jarL C (k + 1) r)) = H1 at hk1 hC1
    have eH' : upd H j (.lst (List.set (jarL C k r) 1 (.int ((k : Int) + 1)))) = H1 := eH
    dsimp only
    rw [eH']
    have hka : (0 : Int) ≤ (k : Int) := Int.natCast_nonneg k
    have hkb : (k : Int) ≤ 4000 := by omega
    refine ⟨_, rfl, _, _, rfl, rfl, .inl ⟨by decide, by decide⟩, _, _, rfl, rfl, ?_⟩
    have fin1 : ∀ (k' : Nat) (r' v : Int) (H2 H' : Hp), Same H1 H2 → k' ≤ m + 1 → 0 ≤ r' → H' = upd H2 j (.lst (jarL C k' r')) → 0 ≤ v → v < many → Q (.int v) H' := fun k' r' v H2 H' s a b c d g => by
      subst c
      refine hQ v _ (fun x o hx ho => ?_) ⟨k', r', upd_same, by rw [upd_ne hne]; exact s _ _ hC1, b, a⟩ d g
      rw [upd_ne hx]
      refine s _ _ ?_
      rw [← eH, upd_ne hx]
      exact ho
    have fin0 : ∀ (v : Int) (H' : Hp), Same H1 H' → 0 ≤ v → v < many → Q (.int v) H' := fun v H' s d g => by
      refine hQ v _ (fun x o hx ho => s _ _ ?_) ⟨k + 1, r, s _ _ hk1, s _ _ hC1, hr0, by omega⟩ d g
      rw [← eH, upd_ne hx]
      exact ho
    refine ⟨fun σ' H' => Same H1 H' ∧ ∃ c : Int, σ' = [some (.ref j), some (.int many), none, some (.int (k : Int)), some (.int c), none], ?_, ?_⟩
    · refine ⟨_, rfl, j, _, _, _, rfl, rfl, .inl (.inl hk1), rfl, Nat.zero_le _, fun q hq => ?_⟩
      have s1 := new1 (o := .lst []) hq
      refine ⟨.list (cs.map PyData.int), .list [], .lst (.inl (.inl (s1 _ _ hC1))) (dpa_ints cs), .lst (.inl (.inl upd_same)) .nil, ints_shaped cs, by decide, ?_⟩
      refine ⟨_, rfl, ite2 (fun c => ?_) fun c => ?_⟩
      · have hcs : cs ≠ [] := fun z => by subst z; exact absurd c (by decide)
        have hlen : 0 < cs.length := List.length_pos_iff.mpr hcs
        refine ⟨_, rfl, j, _, _, _, rfl, rfl, .inl (.inl (s1 _ _ hk1)), rfl, ?_⟩
        refine ⟨_, rfl, .inl ⟨_, rfl, ?_⟩⟩
        refine ⟨_, rfl, j, _, _, _, rfl, rfl, .inl (.inl (s1 _ _ hk1)), rfl, ?_⟩
        refine ⟨C, _, rfl, .inl (.inl (.inl (s1 _ _ hC1))), ?_⟩
        have hnz : ((cs.map V.int).length : Int) ≠ 0 := by rw [List.length_map]; omega
        have hlo : 0 ≤ (k : Int).fmod ((cs.map V.int).length : Int) := fm_lo _ (by rw [List.length_map]; omega)
        have hhi : (k : Int).fmod ((cs.map V.int).length : Int) < ((cs.map V.int).length : Int) := fm_hi _ (by rw [List.length_map]; omega)
        obtain ⟨t, et⟩ : ∃ t : Nat, (k : Int).fmod ((cs.map V.int).length : Int) = (t : Int) := ⟨_, (Int.toNat_of_nonneg hlo).symm⟩
        have ht : t < cs.length := by rw [et, List.length_map] at hhi; omega
        refine ⟨_, _, rfl, rfl, hnz, ?_⟩
        dsimp only
        rw [et]
        have g : (cs.map V.int)[t]? = some (V.int cs[t]) := by rw [List.getElem?_map, List.getElem?_eq_getElem ht]; rfl
        exact ⟨C, _, _, _, rfl, rfl, .inl (.inl (s1 _ _ hC1)), atN g, s1, _, rfl⟩
      · exact ⟨s1, _, rfl⟩
    · rintro σ' H' ⟨s2, c, rfl⟩
      refine ⟨_, rfl, _, rfl, j, _, _, _, rfl, rfl, .inl (.inl (s2 _ _ hk1)), rfl, ?_⟩
      refine ⟨C, _, rfl, .inl (.inl (.inl (s2 _ _ hC1))), ?_⟩
      refine ⟨_, _, rfl, rfl, _, rfl, ?_⟩
      have hab : 0 ≤ (if c < 0 then -c else c) := by split <;> omega
      refine (fun tail => ite2 (fun c1 => ⟨_, rfl, _, rfl, _, _, rfl, rfl, ⟨by decide, by decide, by decide⟩, _, _, rfl, rfl, _, rfl, ite2 (fun c2 => ?yes) (fun _ => tail)⟩) (fun _ => ite_no rfl tail)) ?tail
      case yes =>
        have c3 := of_decide_eq_true c2
        refine ⟨_, rfl, _, rfl, _, _, rfl, rfl, ⟨by decide, by decide, by decide⟩, _, _, rfl, rfl, _, _, rfl, rfl, .inl ⟨by decide, by decide⟩, _, rfl, _, _, rfl, rfl, .inr ⟨_, rfl, _, _, rfl, rfl, ?_⟩⟩
        generalize eR : 2 * ((if c < 0 then -c else c) - 10 ^ (18 : Int).toNat) + (if decide (c < 0) = true then (1 : Int) else 0) = R
        have hR : 0 ≤ R := by
          rw [← eR]
          have : 0 ≤ (if decide (c < 0) = true then (1 : Int) else 0) := by split <;> omega
          omega
        refine ⟨_, rfl, .inl ⟨_, rfl, _, rfl, _, _, rfl, rfl, ⟨hmany, hsmall⟩, ?_⟩⟩
        refine ⟨_, rfl, j, _, 2, 2, rfl, rfl, s2 _ _ hk1, rfl, ?_⟩
        refine ⟨_, rfl, .inl ⟨_, rfl, _, rfl, _, _, rfl, rfl, hmany, ?_⟩⟩
        dsimp only
        rw [eR]
        exact fin1 (k + 1) (R.fdiv many) _ _ _ s2 (by omega) (fd_lo hR h1) rfl (fm_lo _ h1) (fm_hi _ h1)
      case tail =>
        have hc0 := fm_lo c (n := 2147483587) (by decide)
        have hc1 := fm_hi c (n := 2147483587) (by decide)
        have n1 : (2147483587 : Int) ≠ 0 := by decide
        have n2 : (2147483629 : Int) ≠ 0 := by decide
        have n3 : (2147483549 : Int) ≠ 0 := by decide
        refine ⟨_, rfl, .inl ⟨_, rfl, _, _, rfl, rfl, n1, _, rfl, _, _, rfl, rfl, .inl ⟨by decide, by decide⟩, _, _, rfl, rfl, _, _, rfl, rfl, _, _, rfl, rfl, ⟨by decide, by decide, ?_⟩, .inl ⟨_, rfl, _, _, rfl, rfl, n2, ?_⟩⟩⟩
        · omega
        dsimp only
        have hx0 := fm_lo ((c.fmod 2147483587 + 30253 * (k : Int) + 8209) ^ (5 : Int).toNat) (n := 2147483629) (by decide)
        have hx1 := fm_hi ((c.fmod 2147483587 + 30253 * (k : Int) + 8209) ^ (5 : Int).toNat) (n := 2147483629) (by decide)
        generalize ((c.fmod 2147483587 + 30253 * (k : Int) + 8209) ^ (5 : Int).toNat).fmod 2147483629 = x at hx0 hx1
        have hb := mix_room hx0 hx1 hka hkb
        refine ⟨_, rfl, _, rfl, _, _, rfl, rfl, .inl ⟨by decide, by decide⟩, _, _, rfl, rfl, _, _, rfl, rfl, .inl ⟨by omega, by omega⟩, ?_⟩
        refine ⟨_, rfl, _, _, rfl, rfl, .inl ⟨by decide, by decide⟩, _, rfl, _, _, rfl, rfl, .inl ⟨by omega, by omega⟩, _, _, rfl, rfl, _, _, rfl, rfl, _, _, rfl, rfl, ⟨by decide, by decide, hb⟩, .inl ⟨_, rfl, _, _, rfl, rfl, n3, ?_⟩⟩
        dsimp only
        refine ⟨_, rfl, _, _, rfl, rfl, ⟨by decide, by decide⟩, .inl ⟨_, rfl, _, rfl, _, _, rfl, rfl, hmany, ?_⟩⟩
        exact fin0 _ _ s2 (fm_lo _ h1) (fm_hi _ h1)
theorem sc__law_pick : FnScope ["_law_jar_here", "_law_some"] ["_law_jar_here", "_law_some"] (defScope (top 64)) := ⟨rfl, rfl, rfl, by decide +kernel, rfl, by decide +kernel, by decide +kernel⟩
def spPick : Sp := fun vs H Q _ => ∃ (j L C : Addr) (cs : List Int) (m : Nat) (xs : List V), vs = [.ref j, .ref L] ∧ JarAt H j C cs m ∧ m ≤ 4000 ∧ H L = some (.lst xs) ∧ L ≠ j ∧ 1 ≤ xs.length ∧ xs.length ≤ 10000 ∧
  ∀ v H', SameBut j H H' → JarAt H' j C cs (m + 1) → v ∈ xs → Q v H'
theorem c__law_pick (e : Ev w K mg cS cQ cT) : C8.Cal P w K mg base 2 "_law_pick" spPick [] := by
  have c__law_draw := c__law_draw (P := P) (base := base) e
  refine calD e.d_law_pick (fun _ _ _ _ _ _ us hl => match us, hl with | [_, _], _ => rfl) sc__law_pick (fun vs H Q E h => ?_) fun f cdv A outer s H vs Q E hr h => ?_
  · obtain ⟨j, L, C, cs, m, xs, rfl, _⟩ := h; rfl
  obtain ⟨j, L, C, cs, m, xs, rfl, hj, hm, hL, hne, h1, h2, hQ⟩ := h
  refine ⟨_, (pss_one (ps_ret (pe_ix ix_list (pv 1) (C8.pe_c c__law_draw hr (by first | decide | omega) rfl (pa_cons (pv 0) (pa_cons (pe_callB call_len_seq rfl e.n_len (by decide +kernel) (pa_cons (pv 1) pa_nil)) pa_nil))) (fun _ _ => rfl)))), ?_⟩
  refine ⟨_, rfl, _, rfl, _, rfl, L, _, rfl, .inl (.inl (.inl hL)), ?_⟩
  refine ⟨j, C, cs, m, _, rfl, hj, hm, by omega, by omega, fun v H' sb hj' h0 hv => ?_⟩
  obtain ⟨t, rfl⟩ : ∃ t : Nat, v = (t : Int) := ⟨_, (Int.toNat_of_nonneg h0).symm⟩
  have ht : t < xs.length := by omega
  exact ⟨L, xs, _, _, rfl, rfl, .inl (.inl (sb _ _ hne hL)), atN (List.getElem?_eq_getElem ht), hQ _ _ sb hj' (List.getElem_mem ht)⟩
theorem sc__law_bit : FnScope ["_law_bits", "_law_at", "_law_rest", "_law_turn"] ["_law_bits", "_law_at"] (defScope (top 65)) := ⟨rfl, rfl, rfl, by decide +kernel, rfl, by decide +kernel, by decide +kernel⟩
def spBit : Sp := fun vs H Q _ => ∃ (b : Int) (n : Nat), vs = [.int b, nV n] ∧ n ≤ 100 ∧ ∀ t, Q (.bl t) H
theorem c__law_bit (e : Ev w K mg cS cQ cT) : C8.Cal P w K mg base 1 "_law_bit" spBit [] := by
  refine calD e.d_law_bit (fun _ _ _ _ _ _ us hl => match us, hl with | [_, _], _ => rfl) sc__law_bit (fun vs H Q E h => ?_) fun f cdv A outer s H vs Q E hr h => ?_
  · obtain ⟨b, n, rfl, _⟩ := h; rfl
  obtain ⟨b, n, rfl, hn, hQ⟩ := h
  refine ⟨_, (pss_cons (ps_set (i := 2) sc__law_bit.nd rfl (.inl rfl) (pv 0))
    (pss_cons (ps_for PassesOwn.never rfl (pi_range1 rfl e.n_range (pa_cons (pv 1) pa_nil)) (pg_name (i := 3) sc__law_bit.nd rfl (.inl rfl))
    (pss_one (ps_set (i := 2) sc__law_bit.nd rfl (.inl rfl) (pe_op op_fdivN (pv 2) pe_int))))
    (pss_one (ps_ret (pe_cmpR op_eq (pe_op op_modN (pe_callTy call_int1 rfl e.n_int (by decide +kernel) (pa_cons (pv 2) pa_nil)) pe_int) pe_int (nomark _)))))), ?_⟩
  refine ⟨_, rfl, _, rfl, (n : Int), rfl, by omega, by omega, ?_⟩
  rw [Int.toNat_natCast]
  refine for_it (walk_rangeN (n := n)) (fun i σ' H' => H' = H ∧ ∃ r t3, σ' = [some (.int b), some (nV n), some (.int r), t3]) ⟨rfl, b, none, rfl⟩ (fun _ _ _ _ _ => trivial) (fun i x σ' H1 H2 hi p hY => ?_) fun σ' H1 p => ?_
  · obtain ⟨rfl, rfl⟩ := hY
    obtain ⟨rfl, r, t3, rfl⟩ := p
    exact ⟨_, rfl, _, _, rfl, rfl, ⟨by decide, by decide⟩, rfl, _, _, rfl⟩
  · obtain ⟨rfl, r, t3, rfl⟩ := p
    have n2 : (2 : Int) ≠ 0 := by decide
    exact ⟨_, rfl, .inl ⟨_, rfl, _, _, rfl, rfl, n2, rfl, hQ _⟩⟩
end
end K61

end

section
set_option linter.all false
set_option maxRecDepth 100000
set_option maxHeartbeats 4000000
/-! K61, walk 17: a drawn town. -/
namespace K61
open PySem PySem.Spec PyProof.Rows L2
section
variable {P : Program} {w : World} {K : PySem.W.Frag} {mg : Str → Option Value} {base : Heap} {cS cQ cT : Addr}
/-- the ties drawn so far: those of things below o, and those of o with things below k -/
def TsAt (K : PySem.W.Frag) (H : Hp) (T : Addr) (o k : Nat) : Prop := ∃ tys ts, H T = some (.lst tys) ∧ Each (fun y p => Dp K H y (prD p)) tys ts ∧ ts.length ≤ 6 * (o - 1) + k ∧
  (∀ p ∈ ts, p.1 ≠ p.2 ∧ (max p.1 p.2 < o ∨ max p.1 p.2 = o ∧ min p.1 p.2 < k)) ∧ (ts.map norm).Nodup
theorem TsAt.move {H H' : Hp} {T : Addr} {o k o' k' : Nat} (h : TsAt K H T o k) (s : ∀ a xs, SqT K H a xs → SqT K H' a xs) (hT : ∀ x, H T = some x → H' T = some x) (hz : 6 * (o - 1) + k ≤ 6 * (o' - 1) + k') (ho : o < o' ∨ o = o' ∧ k ≤ k') : TsAt K H' T o' k' := by
  obtain ⟨tys, ts, h1, h2, h3, h4, h5⟩ := h
  refine ⟨tys, ts, hT _ h1, h2.mono fun y p d => dp_only s _ _ rfl d, by omega, fun p hp => ?_, h5⟩
  have := h4 p hp
  exact ⟨this.1, by omega⟩
theorem TsAt.add {H : Hp} {T a : Addr} {o k i j : Nat} (h : TsAt K H T o k) (ha : H a = none) (hk : k < o) (hij : (i, j) = (k, o) ∨ (i, j) = (o, k)) {tys : List V} (hT : H T = some (.lst tys)) :
    TsAt K (upd (upd H a (.tup [nV i, nV j])) T (.lst (tys ++ [.ref a]))) T o (k + 1) := by
  obtain ⟨tys', ts, h1, h2, h3, h4, h5⟩ := h
  have ne : T ≠ a := fun z => by rw [z, ha] at hT; cases hT
  rw [hT] at h1
  cases h1
  have en : norm (i, j) = (k, o) := by
    unfold norm
    rcases hij with z | z <;> · cases z; simp only [Prod.mk.injEq]; omega
  refine ⟨_, ts ++ [(i, j)], upd_same, .app (h2.mono fun y p d => dp_only (fun b xs h => ?_) _ _ rfl d) ?_, by rw [List.length_append]; show ts.length + 1 ≤ _; omega, fun p hp => ?_, ?_⟩
  · exact sq_but (D := T) (zs := tys) (by rw [upd_ne ne]; exact hT) .upd b xs (sqT (new1 ha) h)
  · exact .cons (pr_new (i := i) (j := j) (by rw [upd_ne (Ne.symm ne), upd_same] <;> rfl)) .nil
  · rcases List.mem_append.mp hp with hp | hp
    · have := h4 p hp
      exact ⟨this.1, by omega⟩
    · rw [List.mem_singleton] at hp
      subst hp
      rcases hij with z | z <;> · cases z; exact ⟨by dsimp only; omega, by dsimp only; omega⟩
  · rw [List.map_append, List.map_cons, List.map_nil, en]
    refine List.nodup_append.mpr ⟨h5, by simp, fun x hx y hy z => ?_⟩
    rw [List.mem_singleton] at hy
    subst z
    subst hy
    obtain ⟨p, hp, e⟩ := List.mem_map.mp hx
    have := (h4 p hp).2
    unfold norm at e
    simp only [Prod.mk.injEq] at e
    omega
theorem sc__law_town : FnScope ["_law_jar_here", "_law_most", "_law_things", "_law_ties", "_law_way", "_law_other", "_law_bits", "_law_more", "_law_one", "_law_is_there"] ["_law_jar_here", "_law_most"] (defScope (top 66)) := ⟨rfl, rfl, rfl, by decide +kernel, rfl, by decide +kernel, by decide +kernel⟩
def spTown (K : PySem.W.Frag) : Sp := fun vs H Q _ => ∃ (j C : Addr) (cs : List Int) (m : Nat) (most : Int), vs = [.ref j, .int most] ∧ JarAt H j C cs m ∧ m ≤ 3900 ∧ 1 ≤ most ∧ most ≤ 7 ∧
  ∀ (t : Addr) (n : Nat) (T : Addr) (tys : List V) (ts : List (Nat × Nat)) H', SameBut j H H' → JarAt H' j C cs (m + 14) → H' t = some (.tup [nV n, .ref T]) → H' T = some (.lst tys) → Each (fun y p => Dp K H' y (prD p)) tys ts → T ≠ j → ts.length ≤ 36 →
    1 ≤ n → n ≤ 7 → (∀ p ∈ ts, p.1 ≠ p.2 ∧ p.1 < n ∧ p.2 < n) → (ts.map norm).Nodup → Q (.ref t) H'
theorem c__law_town (e : Ev w K mg cS cQ cT) : C8.Cal P w K mg base 2 "_law_town" (spTown K) [] := by
  have c__law_draw := c__law_draw (P := P) (base := base) e
  have c__law_bit := c__law_bit (P := P) (base := base) e
  refine calD e.d_law_town (fun _ _ _ _ _ _ us hl => match us, hl with | [_, _], _ => rfl) sc__law_town (fun vs H Q E h => ?_) fun f cdv A outer s H vs Q E hr h => ?_
  · obtain ⟨j, C, cs, m, most, rfl, _⟩ := h; rfl
  obtain ⟨j, C, cs, m, most, rfl, hj, hm, h1, h2, hQ⟩ := h
  refine ⟨_, (pss_cons (ps_par (i := 2) (j := 3) rfl sc__law_town.nd rfl rfl (by decide) rfl rfl (pa_cons (pe_op op_add pe_int (C8.pe_c c__law_draw hr (by first | decide | omega) rfl (pa_cons (pv 0) (pa_cons (pv 1) pa_nil)))) (pa_cons (pe_lst pa_nil) pa_nil)) rfl)
    (pss_cons (ps_set (i := 4) sc__law_town.nd rfl (.inl rfl) (C8.pe_c c__law_draw hr (by first | decide | omega) rfl (pa_cons (pv 0) (pa_cons pe_int pa_nil))))
    (pss_cons (ps_for PassesOwn.never rfl (pi_range2 rfl e.n_range (pa_cons pe_int (pa_cons (pv 2) pa_nil))) (pg_name (i := 5) sc__law_town.nd rfl (.inl rfl))
    (pss_cons (ps_par (i := 6) (j := 7) rfl sc__law_town.nd rfl rfl (by decide) rfl rfl (pa_cons (C8.pe_c c__law_draw hr (by first | decide | omega) rfl (pa_cons (pv 0) (pa_cons pe_int pa_nil))) (pa_cons (C8.pe_c c__law_draw hr (by first | decide | omega) rfl (pa_cons (pv 0) (pa_cons pe_int pa_nil))) pa_nil)) rfl)
      (pss_one (ps_for PassesOwn.never rfl (pi_range1 rfl e.n_range (pa_cons (pv 5) pa_nil)) (pg_name (i := 8) sc__law_town.nd rfl (.inl rfl))
      (pss_cons (ps_set (i := 9) sc__law_town.nd rfl (.inl rfl) (C8.pe_c c__law_bit hr (by first | decide | omega) rfl (pa_cons (pv 6) (pa_cons (pv 8) pa_nil))))
        (C8.pss_cut (ps_if (pt_cmpR op_eq (pv 4) pe_int (nomark _)) (pss_one (ps_set (i := 9) sc__law_town.nd rfl (.inl rfl) (pe_and (pv 9) (pe_one (C8.pe_c c__law_bit hr (by first | decide | omega) rfl (pa_cons (pv 7) (pa_cons (pv 8) pa_nil))))))) pss_nil)
        (C8.pss_cut (ps_if (pt_cmpR op_eq (pv 4) pe_int (nomark _)) (pss_one (ps_set (i := 9) sc__law_town.nd rfl (.inl rfl) (pe_or (pv 9) (pe_one (C8.pe_c c__law_bit hr (by first | decide | omega) rfl (pa_cons (pv 7) (pa_cons (pv 8) pa_nil))))))) pss_nil)
        (C8.pss_cut (ps_if (pt_cmpR op_eq (pv 4) pe_int (nomark _)) (pss_one (ps_set (i := 9) sc__law_town.nd rfl (.inl rfl) (pe_cmpR op_eq (pv 8) (pe_op op_modN (pe_callTy call_int1 rfl e.n_int (by decide +kernel) (pa_cons (pv 6) pa_nil)) (pv 5)) (nomark _)))) pss_nil)
        (pss_one (ps_if (pt_val (pv 9)) (pss_one (ps_expr (pe_bm PySem.F.plainAttrs_list PySem.F.slot_list_append PySem.F.type_list_append mt_append (pv 3) (pa_cons (pe_ifExp (pt_cmpR op_ge (pv 7) pe_int (nomark _)) (pe_tup (pa_cons (pv 5) (pa_cons (pv 8) pa_nil))) (pe_tup (pa_cons (pv 8) (pa_cons (pv 5) pa_nil)))) pa_nil)))) pss_nil))))))))))
    (pss_one (ps_ret (pe_tup (pa_cons (pv 2) (pa_cons (pv 3) pa_nil)))))))), ?_⟩
  refine ⟨_, rfl, _, rfl, j, C, cs, m, _, rfl, hj, by omega, h1, by omega, fun v H1 b1 hj1 h0 hv => ?_⟩
  obtain ⟨t, rfl⟩ : ∃ t : Nat, v = (t : Int) := ⟨_, (Int.toNat_of_nonneg h0).symm⟩
  refine ⟨_, _, rfl, rfl, Nat.zero_le _, fun T hT => ?_⟩
  have hTj : T ≠ j := fun z => by
    obtain ⟨_, _, q, _⟩ := hj1
    rw [z, q] at hT
    cases hT
  have hCT : C ≠ T := fun z => by
    obtain ⟨_, _, _, q, _⟩ := hj1
    rw [z, hT] at q
    cases q
  have s1 := new1 (o := .lst []) hT
  refine ⟨_, _, rfl, _, rfl, j, C, cs, m + 1, _, rfl, hj1.same s1, by omega, by decide, by decide, fun way H2 b2 hj2 _ _ => ?_⟩
  have b02 : SameBut j H H2 := b1.trans ((Same.but s1).trans b2)
  have hT2 : H2 T = some (.lst []) := b2 T _ hTj upd_same
  have hHT : H T = none := by
    cases q : H T with
    | none => rfl
    | some o =>
      have := b1 T o hTj q
      rw [hT] at this
      cases this
  have en : (1 : Int) + (t : Int) = ((1 + t : Nat) : Int) := by omega
  dsimp only
  rw [en]
  refine ⟨_, rfl, 1, _, rfl, by omega, ?_⟩
  have en2 : (((1 + t : Nat) : Int) - 1).toNat = t := by omega
  rw [en2]
  refine for_it (walk_range (lo := 1) (n := t)) (fun i σ' H' => (∃ t5 t6 t7 t8 t9, σ' = [some (.ref j), some (.int most), some (nV (1 + t)), some (.ref T), some (.int way), t5, t6, t7, t8, t9]) ∧ SameBut j H H' ∧ JarAt H' j C cs (m + 2 + 2 * i) ∧ TsAt K H' T (i + 1) 0)
    ⟨⟨_, _, _, _, _, rfl⟩, b02, hj2, [], [], hT2, .nil, Nat.zero_le _, (fun p hp => by cases hp), .nil⟩ (fun _ _ _ _ _ => trivial) (fun i y σ' H3 H4 hi p hY => ?_) fun σ' H' p => ?_
  · obtain ⟨rfl, rfl⟩ := hY
    obtain ⟨⟨t5, t6, t7, t8, t9, rfl⟩, b3, hj3, hT3⟩ := p
    have eo : (1 : Int) + (i : Int) = ((i + 1 : Nat) : Int) := by omega
    dsimp only
    rw [eo]
    refine ⟨_, rfl, j, C, cs, m + 2 + 2 * i, _, rfl, hj3, by omega, by decide, by decide, fun bits H5 b5 hj5 _ _ => ?_⟩
    refine ⟨_, rfl, j, C, cs, m + 2 + 2 * i + 1, _, rfl, hj5, by omega, by decide, by decide, fun more H6 b6 hj6 _ _ => ?_⟩
    refine ⟨_, _, rfl, _, rfl, ((i + 1 : Nat) : Int), rfl, by omega, by omega, ?_⟩
    rw [Int.toNat_natCast]
    have b36 : SameBut j H4 H6 := b5.trans b6
    have hT6 : TsAt K H6 T (i + 1) 0 := by
      obtain ⟨_, _, q3, _⟩ := hj3
      exact hT3.move (fun a xs h => sq_but q3 b36 a xs h) (fun x hx => b36 T x hTj hx) (Nat.le_refl _) (.inr ⟨rfl, Nat.le_refl _⟩)
    refine for_it (walk_rangeN (n := i + 1)) (fun k σ' H' => (∃ t8 t9, σ' = [some (.ref j), some (.int most), some (nV (1 + t)), some (.ref T), some (.int way), some (nV (i + 1)), some (.int bits), some (.int more), t8, t9]) ∧ SameBut j H H' ∧ JarAt H' j C cs (m + 2 + 2 * i + 2) ∧ TsAt K H' T (i + 1) k)
      ⟨⟨_, _, rfl⟩, b3.trans b36, hj6, hT6⟩ (fun _ _ _ _ _ => trivial) (fun k y σ' H7 H8 hk p hY => ?_) fun σ' H' p => ?_
    · obtain ⟨rfl, rfl⟩ := hY
      obtain ⟨⟨t8, t9, rfl⟩, b7, hj7, hT7⟩ := p
      refine ⟨_, rfl, _, rfl, bits, k, rfl, by omega, fun is1 => ?_⟩
      refine ⟨fun σ' H' => H' = H8 ∧ ∃ is : Bool, σ' = [some (.ref j), some (.int most), some (nV (1 + t)), some (.ref T), some (.int way), some (nV (i + 1)), some (.int bits), some (.int more), some (nV k), some (.bl is)], ?_, ?_⟩
      · refine ⟨_, rfl, rfl, _, rfl, ite2 (fun _ => ⟨_, rfl, is1, rfl, ite2 (fun _ => ⟨_, rfl, _, rfl, more, k, rfl, by omega, fun is2 => ⟨rfl, _, rfl⟩⟩) fun _ => ⟨rfl, _, rfl⟩⟩) fun _ => ⟨rfl, _, rfl⟩⟩
      rintro σ' H' ⟨rfl, is, rfl⟩
      refine ⟨fun σ' H2 => H2 = H' ∧ ∃ is : Bool, σ' = [some (.ref j), some (.int most), some (nV (1 + t)), some (.ref T), some (.int way), some (nV (i + 1)), some (.int bits), some (.int more), some (nV k), some (.bl is)], ?_, ?_⟩
      · refine ⟨_, rfl, rfl, _, rfl, ite2 (fun _ => ⟨_, rfl, is, rfl, ite2 (fun _ => ⟨rfl, _, rfl⟩) fun _ => ⟨_, rfl, _, rfl, more, k, rfl, by omega, fun is2 => ⟨rfl, _, rfl⟩⟩⟩) fun _ => ⟨rfl, _, rfl⟩⟩
      rintro σ' H' ⟨rfl, is, rfl⟩
      refine ⟨fun σ' H2 => H2 = H' ∧ ∃ is : Bool, σ' = [some (.ref j), some (.int most), some (nV (1 + t)), some (.ref T), some (.int way), some (nV (i + 1)), some (.int bits), some (.int more), some (nV k), some (.bl is)], ?_, ?_⟩
      · have n2 : ((i + 1 : Nat) : Int) ≠ 0 := by omega
        exact ⟨_, rfl, rfl, _, rfl, ite2 (fun _ => ⟨_, rfl, _, rfl, .inl ⟨_, rfl, _, rfl, _, _, rfl, rfl, n2, rfl, rfl, _, rfl⟩⟩) fun _ => ⟨rfl, _, rfl⟩⟩
      rintro σ' H' ⟨rfl, is, rfl⟩
      have hk' : k < i + 1 := hk
      obtain ⟨tys, ts, q1, q2⟩ := id hT7
      have hlen : tys.length < sizeLine := by
        have := q2.1.1
        have := q2.2.1
        exact smallLt (m := 100) (by omega)
      refine ⟨_, rfl, is, rfl, ite2 (fun _ => ?_) fun _ => ⟨⟨_, _, rfl⟩, b7, hj7, hT7.move (fun _ _ h => h) (fun _ h => h) (by omega) (by omega)⟩⟩
      have hbut : ∀ a o, H' a = none → SameBut j H (upd (upd H' a o) T (.lst (tys ++ [.ref a]))) := fun a o ha x u hx hu => by
        rw [upd_ne (ne_of_none hu hHT), upd_ne (ne_of_none (b7 x u hx hu) ha)]
        exact b7 x u hx hu
      have hjar : ∀ a o, H' a = none → JarAt (upd (upd H' a o) T (.lst (tys ++ [.ref a]))) j C cs (m + 2 + 2 * i + 2) := fun a o ha => by
        obtain ⟨k', r', z1, z2, z3, z4⟩ := hj7
        exact ⟨k', r', by rw [upd_ne (Ne.symm hTj), upd_ne (ne_of_none z1 ha)]; exact z1, by rw [upd_ne hCT, upd_ne (ne_of_none z2 ha)]; exact z2, z3, z4⟩
      refine ⟨_, rfl, .inl ⟨rfl, _, .inl (.inl q1)⟩, _, rfl, _, _, rfl, rfl, _, rfl, ite2 (fun _ => ?_) fun _ => ?_⟩
      · refine ⟨_, rfl, _, rfl, (by show 2 ≤ sizeLine; decide), fun a ha => ?_⟩
        have ne : T ≠ a := ne_of_none q1 ha
        exact ⟨T, tys, _, rfl, rfl, (by rw [upd_ne ne]; exact q1), hlen, ⟨_, _, rfl⟩, hbut a _ ha, hjar a _ ha, hT7.add ha hk' (.inr rfl) q1⟩
      · refine ⟨_, rfl, _, rfl, (by show 2 ≤ sizeLine; decide), fun a ha => ?_⟩
        have ne : T ≠ a := ne_of_none q1 ha
        exact ⟨T, tys, _, rfl, rfl, (by rw [upd_ne ne]; exact q1), hlen, ⟨_, _, rfl⟩, hbut a _ ha, hjar a _ ha, hT7.add ha hk' (.inl rfl) q1⟩
    · obtain ⟨⟨t8, t9, rfl⟩, b7, hj7, hT7⟩ := p
      refine ⟨⟨_, _, _, _, _, rfl⟩, b7, hj7.same (Same.refl _), hT7.move (fun _ _ h => h) (fun _ h => h) (by omega) (by omega)⟩
  · obtain ⟨⟨t5, t6, t7, t8, t9, rfl⟩, b3, hj3, tys, ts, hT3, he, hz, hp, hn⟩ := p
    refine ⟨_, rfl, _, rfl, (by show 2 ≤ sizeLine; decide), fun a ha => ?_⟩
    have s9 := new1 (o := .tup [nV (1 + t), .ref T]) ha
    exact hQ a (1 + t) T tys ts _ (b3.trans (Same.but s9)) (hj3.same s9) upd_same (s9 _ _ hT3) (he.mono fun y p d => dp_same s9 _ _ d) hTj (by omega) (by omega) (by omega) (fun p h => ⟨(hp p h).1, by have := (hp p h).2; omega, by have := (hp p h).2; omega⟩) hn
end
end K61

end

section
set_option linter.all false
set_option maxRecDepth 100000
set_option maxHeartbeats 4000000
/-! K61, walk 18: a drawn question's size and text. -/
namespace K61
open PySem PySem.Spec PyProof.Rows L2
/-! ### texts of words -/
theorem joinL_one {p : List Nat} {l : List (List Nat)} (h : l ≠ []) : TL.joinL [32] (p :: l) = p ++ ([32] ++ TL.joinL [32] l) := by
  cases l with
  | nil => exact absurd rfl h
  | cons q r => rfl
theorem joinL_app {l m : List (List Nat)} (h : l ≠ []) (k : m ≠ []) : TL.joinL [32] (l ++ m) = TL.joinL [32] l ++ ([32] ++ TL.joinL [32] m) := by
  induction l with
  | nil => exact absurd rfl h
  | cons p r ih =>
    by_cases c : r = []
    · subst c
      rw [List.singleton_append, joinL_one k]
      rfl
    · rw [List.cons_append, joinL_one (by simp [c]), ih c, joinL_one c, List.append_assoc, List.append_assoc]
theorem joinL_len {ps : List (List Nat)} (h : ∀ p ∈ ps, p.length ≤ 4) : (TL.joinL [32] ps).length ≤ 5 * ps.length := by
  induction ps with
  | nil => exact Nat.le_refl 0
  | cons p r ih =>
    have h1 := h p (List.mem_cons_self ..)
    have h2 := ih fun q hq => h q (List.mem_cons_of_mem _ hq)
    by_cases c : r = []
    · subst c
      show p.length ≤ 5
      omega
    · rw [joinL_one c, List.length_append, List.length_append, List.length_cons (a := p)]
      show p.length + (1 + _) ≤ _
      omega
def wOk (z : Str) : Bool := !(TL.tl z).contains 32 && decide ((TL.tl z).length ≤ 4)
theorem words_ok : ∀ q : Qn, ∀ z ∈ q.words, wOk z = true := by
  have h1 : ∀ t, wOk (atS t) = true := fun t => by cases t <;> decide +kernel
  have h2 : ∀ a, wOk (nmS a) = true := fun a => by cases a <;> decide +kernel
  have h3 : ∀ t, wOk (binS t) = true := fun t => by cases t <;> decide +kernel
  have h4 : ∀ t, wOk (lookS t) = true := fun t => by cases t <;> decide +kernel
  have h5 : wOk ("not" : Str) = true := by decide +kernel
  intro q
  induction q with
  | atom t a b =>
    intro z hz
    simp only [Qn.words, List.mem_cons, List.not_mem_nil, or_false] at hz
    rcases hz with rfl | rfl | rfl
    · exact h1 t
    · exact h2 a
    · exact h2 b
  | neg q ih =>
    intro z hz
    simp only [Qn.words, List.mem_cons] at hz
    rcases hz with rfl | hz
    · exact h5
    · exact ih z hz
  | bin o q r ih1 ih2 =>
    intro z hz
    simp only [Qn.words, List.mem_cons, List.mem_append] at hz
    rcases hz with rfl | hz | hz
    · exact h3 o
    · exact ih1 z hz
    · exact ih2 z hz
  | look s a q ih =>
    intro z hz
    simp only [Qn.words, List.mem_cons] at hz
    rcases hz with rfl | rfl | hz
    · exact h4 s
    · exact h2 a
    · exact ih z hz
def TxOk (q : Qn) (tx : Str) : Prop := TL.tl tx = TL.joinL [32] (q.words.map TL.tl)
theorem words_ne (q : Qn) : q.words.map TL.tl ≠ [] := fun z => by
  have := congrArg List.length z
  rw [List.length_map, q.words_len] at this
  have := q.size_ge
  simp at *
  omega
theorem TxOk.split {q : Qn} {tx : Str} (h : TxOk q tx) : Txt.split tx " " = q.words := by
  have e1 : tx = SX.S (TL.joinL [32] (q.words.map TL.tl)) := TL.ext_tl h
  have e2 : (" " : Str) = SX.S [32] := by decide +kernel
  rw [e1, e2, SX.split_S (by simp) (by decide), SX.spl_join (words_ne q) ?_, List.map_map]
  · have e3 : (SX.S ∘ TL.tl) = id := funext fun z => SX.S_tl z
    rw [e3, List.map_id]
  · intro p hp
    obtain ⟨z, hz, rfl⟩ := List.mem_map.mp hp
    have := words_ok q z hz
    unfold wOk at this
    rw [Bool.and_eq_true] at this
    simpa using this.1
theorem TxOk.len {q : Qn} {tx : Str} (h : TxOk q tx) : tx.length ≤ 5 * q.size := by
  have e1 : tx = SX.S (TL.joinL [32] (q.words.map TL.tl)) := TL.ext_tl h
  rw [e1, SX.S_len]
  refine Nat.le_trans (joinL_len fun p hp => ?_) (by rw [List.length_map, q.words_len]; exact Nat.le_refl _)
  obtain ⟨z, hz, rfl⟩ := List.mem_map.mp hp
  have := words_ok q z hz
  unfold wOk at this
  rw [Bool.and_eq_true] at this
  exact of_decide_eq_true this.2
theorem sp_tl : TL.tl (" " : Str) = [32] := by decide +kernel
theorem tx_atom (t : Bool) (a b : Nm) : TxOk (.atom t a b) ((((atS t ++ " ") ++ nmS a) ++ " ") ++ nmS b) := by
  unfold TxOk
  simp only [TL.tl_append, sp_tl, Qn.words, List.map_cons, List.map_nil, TL.joinL, List.append_assoc]
theorem tx_look {s : Bool} {a : Nm} {q : Qn} {tx : Str} (h : TxOk q tx) : TxOk (.look s a q) ((((lookS s ++ " ") ++ nmS a) ++ " ") ++ tx) := by
  unfold TxOk at *
  simp only [TL.tl_append, sp_tl, Qn.words, List.map_cons, h]
  rw [joinL_one (by simp), joinL_one (words_ne q)]
  simp only [List.append_assoc]
theorem tx_neg {q : Qn} {tx : Str} (h : TxOk q tx) : TxOk (.neg q) (("not" ++ " ") ++ Txt.join " " [tx]) := by
  unfold TxOk at *
  have e : TL.tl (Txt.join " " [tx]) = TL.tl tx := by
    rw [show Txt.join " " [tx] = _ from TL.join_eq _ _, TL.tl_join] <;> rfl
  simp only [TL.tl_append, sp_tl, Qn.words, List.map_cons, h, e]
  rw [joinL_one (words_ne q)]
  simp only [List.append_assoc]
theorem tx_bin {o : Bool} {q r : Qn} {tx ty : Str} (h : TxOk q tx) (k : TxOk r ty) : TxOk (.bin o q r) ((binS o ++ " ") ++ Txt.join " " [tx, ty]) := by
  unfold TxOk at *
  have e : TL.tl (Txt.join " " [tx, ty]) = TL.tl tx ++ ([32] ++ TL.tl ty) := by
    rw [show Txt.join " " [tx, ty] = _ from TL.join_eq _ _, TL.tl_join, sp_tl] <;> rfl
  simp only [TL.tl_append, sp_tl, Qn.words, List.map_cons, List.map_append, h, k, e]
  rw [joinL_one (by simp [words_ne q]), joinL_app (words_ne q) (words_ne r)]
  simp only [List.append_assoc]
section
variable {P : Program} {w : World} {K : PySem.W.Frag} {mg : Str → Option Value} {base : Heap} {cS cQ cT : Addr}
theorem sc__law_size : FnScope ["_law_node", "_law_part"] ["_law_node"] (defScope (top 67)) := ⟨rfl, rfl, rfl, by decide +kernel, rfl, by decide +kernel, by decide +kernel⟩
def spSize (K : PySem.W.Frag) (k : Nat) : Sp := fun vs H Q _ => ∃ (r : V) (q : Qn), vs = [r] ∧ QAt K H r q ∧ q.deep + 1 ≤ k ∧ ∀ H', Same H H' → Q (.int (q.size : Int)) H'
theorem b__law_size : BindOk "_law_size" "_law_size" (top 67) ["_law_node"] := fun _ _ _ _ _ _ us hl => match us, hl with | [_], _ => rfl
theorem s__law_size {k : Nat} (e : Ev w K mg cS cQ cT) (c__law_size : C8.Cal P w K mg base k "_law_size" (spSize K k) []) : C8.Cal P w K mg base (k + 1) "_law_size" (spSize K (k + 1)) [] := by
  refine calD e.d_law_size b__law_size sc__law_size (fun vs H Q E h => ?_) fun f cdv A outer s H vs Q E hr h => ?_
  · obtain ⟨r, _, rfl, _⟩ := h; rfl
  obtain ⟨r, q, rfl, hq, hd, hQ⟩ := h
  refine ⟨_, (pss_cons (ps_if (pt_cmpR op_in_seq (pe_ix ix_tup (pv 0) pe_int (fun _ _ => rfl)) (pe_tup (pa_cons pe_str (pa_cons pe_str pa_nil))) rfl) (pss_one (ps_ret pe_int)) pss_nil)
    (pss_cons (ps_if (pt_cmpR op_in_seq (pe_ix ix_tup (pv 0) pe_int (fun _ _ => rfl)) (pe_tup (pa_cons pe_str (pa_cons pe_str pa_nil))) rfl) (pss_one (ps_ret (pe_op op_add pe_int (C8.pe_c c__law_size hr (by first | decide | omega) rfl (pa_cons (pe_ix ix_tup (pv 0) pe_int (fun _ _ => rfl)) pa_nil))))) pss_nil)
    (pss_one (ps_ret (pe_op op_add pe_int (pe_callB (cr_sum rfl) rfl e.n_sum (by decide +kernel) (pa_cons (pe_lc (own := [("_law_part", 1)]) (tt := tYes) rfl sc__law_size.nd (pi_tup (pe_slice sl_tup (pv 0) (po_some pe_int) po_none)) (blkOk_by (N := ["_law_node", "_law_part"]) (sc := defScope (top 67)) (by decide +kernel)) (fun _ _ _ _ _ => (pg_name (i := 1) sc__law_size.nd rfl (.inl rfl))) (fun _ _ _ _ _ => pts_nil) (fun _ _ _ _ _ => (C8.pe_c c__law_size hr (by first | decide | omega) rfl (pa_cons (pv 1) pa_nil)))) pa_nil))))))), ?_⟩
  cases q with
  | atom t a b =>
    obtain ⟨pr, rfl, hpr⟩ := hq
    refine ⟨_, rfl, pr, _, _, _, rfl, rfl, hpr, atN (i := 0) rfl, (by show 2 ≤ sizeLine; decide), fun d1 hd1 => ?_⟩
    refine ⟨d1, _, rfl, .inr (.inl (.inl upd_same)), rfl, rfl, _, rfl, ite_yes (by cases t <;> decide +kernel) ?_⟩
    exact hQ _ (new1 hd1)
  | look s a q =>
    obtain ⟨pr, uu, rfl, hpr, hq1⟩ := hq
    simp only [Qn.deep] at hd
    refine ⟨_, rfl, pr, _, _, _, rfl, rfl, hpr, atN (i := 0) rfl, (by show 2 ≤ sizeLine; decide), fun d1 hd1 => ?_⟩
    have s1 := new1 (o := .tup [.str "tied", .str "same"]) hd1
    refine ⟨d1, _, rfl, .inr (.inl (.inl upd_same)), rfl, rfl, _, rfl, ite_no (by cases s <;> decide +kernel) ?_⟩
    refine ⟨_, rfl, pr, _, _, _, rfl, rfl, sqT s1 hpr, atN (i := 0) rfl, (by show 2 ≤ sizeLine; decide), fun d2 hd2 => ?_⟩
    have s2 := same2 (o := .tup [.str "some", .str "all"]) s1 hd2
    refine ⟨d2, _, rfl, .inr (.inl (.inl upd_same)), rfl, rfl, _, rfl, ite_yes (by cases s <;> decide +kernel) ?_⟩
    refine ⟨_, rfl, pr, _, _, _, rfl, rfl, sqT s2 hpr, atN (i := 2) rfl, uu, q, rfl, hq1.to (same_sq s2), by omega, fun H1 s3 => ⟨_, _, rfl, rfl, ?_⟩⟩
    have e1 : V.int (2 + (q.size : Int)) = V.int (((Qn.look s a q).size : Nat) : Int) := by
      simp only [Qn.size]
      exact congrArg V.int (by omega)
    show Q (V.int (2 + (q.size : Int))) H1
    rw [e1]
    exact hQ H1 (Same.tr s2 s3)
  | neg q =>
    obtain ⟨pr, uu, rfl, hpr, hq1⟩ := hq
    simp only [Qn.deep] at hd
    refine ⟨_, rfl, pr, _, _, _, rfl, rfl, hpr, atN (i := 0) rfl, (by show 2 ≤ sizeLine; decide), fun d1 hd1 => ?_⟩
    have s1 := new1 (o := .tup [.str "tied", .str "same"]) hd1
    refine ⟨d1, _, rfl, .inr (.inl (.inl upd_same)), rfl, rfl, _, rfl, ite_no (by decide +kernel) ?_⟩
    refine ⟨_, rfl, pr, _, _, _, rfl, rfl, sqT s1 hpr, atN (i := 0) rfl, (by show 2 ≤ sizeLine; decide), fun d2 hd2 => ?_⟩
    have s2 := same2 (o := .tup [.str "some", .str "all"]) s1 hd2
    refine ⟨d2, _, rfl, .inr (.inl (.inl upd_same)), rfl, rfl, _, rfl, ite_no (by decide +kernel) ?_⟩
    refine ⟨_, rfl, _, rfl, pr, _, rfl, sqT s2 hpr, (fun z => by cases whole1 z), fun p hp => ?_⟩
    rw [cut1]
    have s0 := same2 (o := .tup [uu]) s2 hp
    refine ⟨p, rfl, ⟨_, .inl (.inl upd_same)⟩, fun D hD => ?_⟩
    refine lc_told (walk_tup (xs := [uu])) hD (by simp) [.int (q.size : Int)] rfl (fun H' s' => .inl (.inl (s' _ _ upd_same))) (fun i x y H1 H2 ys Kk hy s3 _ hY hk => ?_) fun H' s3 hD1 => ?_
    · obtain ⟨rfl, hx⟩ := hY
      cases i with
      | zero =>
        cases hx
        cases hy
        exact ⟨rfl, _, rfl, _, q, rfl, hq1.to (same_sq (Same.tr s0 s3)), by omega, hk⟩
      | succ i => simp at hx
    · refine ⟨D, [(q.size : Int)], rfl, .inl (.inl hD1), _, _, rfl, rfl, ?_⟩
      have e1 : (fun i j : Int => V.int (i + j)) 1 [(q.size : Int)].sum = V.int (((Qn.neg q).size : Nat) : Int) := by
        simp only [Qn.size, List.sum_cons, List.sum_nil]
        exact congrArg V.int (by omega)
      rw [e1]
      exact hQ _ (Same.tr s0 s3)
  | bin o q1 q2 =>
    obtain ⟨pr, u1, u2, rfl, hpr, hq1, hq2⟩ := hq
    simp only [Qn.deep] at hd
    refine ⟨_, rfl, pr, _, _, _, rfl, rfl, hpr, atN (i := 0) rfl, (by show 2 ≤ sizeLine; decide), fun d1 hd1 => ?_⟩
    have s1 := new1 (o := .tup [.str "tied", .str "same"]) hd1
    refine ⟨d1, _, rfl, .inr (.inl (.inl upd_same)), rfl, rfl, _, rfl, ite_no (by cases o <;> decide +kernel) ?_⟩
    refine ⟨_, rfl, pr, _, _, _, rfl, rfl, sqT s1 hpr, atN (i := 0) rfl, (by show 2 ≤ sizeLine; decide), fun d2 hd2 => ?_⟩
    have s2 := same2 (o := .tup [.str "some", .str "all"]) s1 hd2
    refine ⟨d2, _, rfl, .inr (.inl (.inl upd_same)), rfl, rfl, _, rfl, ite_no (by cases o <;> decide +kernel) ?_⟩
    refine ⟨_, rfl, _, rfl, pr, _, rfl, sqT s2 hpr, (fun z => by cases whole1 z), fun p hp => ?_⟩
    rw [cut1]
    have s0 := same2 (o := .tup [u1, u2]) s2 hp
    refine ⟨p, rfl, ⟨_, .inl (.inl upd_same)⟩, fun D hD => ?_⟩
    refine lc_told (walk_tup (xs := [u1, u2])) hD (by simp) [.int (q1.size : Int), .int (q2.size : Int)] rfl (fun H' s' => .inl (.inl (s' _ _ upd_same))) (fun i x y H1 H2 ys Kk hy s3 _ hY hk => ?_) fun H' s3 hD1 => ?_
    · obtain ⟨rfl, hx⟩ := hY
      match i, hx, hy with
      | 0, hx, hy =>
        cases hx
        cases hy
        exact ⟨rfl, _, rfl, _, q1, rfl, hq1.to (same_sq (Same.tr s0 s3)), by omega, hk⟩
      | 1, hx, hy =>
        cases hx
        cases hy
        exact ⟨rfl, _, rfl, _, q2, rfl, hq2.to (same_sq (Same.tr s0 s3)), by omega, hk⟩
      | i + 2, hx, hy => simp at hx
    · refine ⟨D, [(q1.size : Int), (q2.size : Int)], rfl, .inl (.inl hD1), _, _, rfl, rfl, ?_⟩
      have e1 : (fun i j : Int => V.int (i + j)) 1 [(q1.size : Int), (q2.size : Int)].sum = V.int (((Qn.bin o q1 q2).size : Nat) : Int) := by
        simp only [Qn.size, List.sum_cons, List.sum_nil]
        exact congrArg V.int (by omega)
      rw [e1]
      exact hQ _ (Same.tr s0 s3)
theorem c__law_size (e : Ev w K mg cS cQ cT) : ∀ n, C8.Cal P w K mg base n "_law_size" (spSize K n) []
  | 0 => calNone e.d_law_size b__law_size fun vs H Q E ⟨_, _, _, _, h, _⟩ => by omega
  | n + 1 => s__law_size e (c__law_size e n)
theorem sc__law_text : FnScope ["_law_node", "_law_part"] ["_law_node"] (defScope (top 68)) := ⟨rfl, rfl, rfl, by decide +kernel, rfl, by decide +kernel, by decide +kernel⟩
def spText (K : PySem.W.Frag) (k : Nat) : Sp := fun vs H Q _ => ∃ (r : V) (q : Qn), vs = [r] ∧ QAt K H r q ∧ q.deep + 1 ≤ k ∧ q.size ≤ 1000 ∧ ∀ tx H', Same H H' → TxOk q tx → Q (.str tx) H'
theorem b__law_text : BindOk "_law_text" "_law_text" (top 68) ["_law_node"] := fun _ _ _ _ _ _ us hl => match us, hl with | [_], _ => rfl
theorem le5 {n m : Nat} (h : n ≤ m) (hm : m ≤ 10000 := by decide) : n ≤ sizeLine := small h hm
theorem w4 {q : Qn} {z : Str} (h : z ∈ q.words) : z.length ≤ 4 := by
  have := words_ok q z h
  unfold wOk at this
  rw [Bool.and_eq_true] at this
  have e : z.length = (TL.tl z).length := by simp [TL.tl, Str.length]
  rw [e]
  exact of_decide_eq_true this.2
theorem app_len (x y : Str) : (x ++ y).length = x.length + y.length := by
  have e : ∀ z : Str, z.length = (TL.tl z).length := fun z => by simp [TL.tl, Str.length]
  rw [e, e x, e y, TL.tl_append, List.length_append]
theorem s__law_text {k : Nat} (e : Ev w K mg cS cQ cT) (c__law_text : C8.Cal P w K mg base k "_law_text" (spText K k) []) : C8.Cal P w K mg base (k + 1) "_law_text" (spText K (k + 1)) [] := by
  have l1 : (" " : Str).length = 1 := by decide +kernel
  refine calD e.d_law_text b__law_text sc__law_text (fun vs H Q E h => ?_) fun f cdv A outer s H vs Q E hr h => ?_
  · obtain ⟨r, _, rfl, _⟩ := h; rfl
  obtain ⟨r, q, rfl, hq, hd, hz, hQ⟩ := h
  refine ⟨_, (pss_cons (ps_if (pt_cmpR op_in_seq (pe_ix ix_tup (pv 0) pe_int (fun _ _ => rfl)) (pe_tup (pa_cons pe_str (pa_cons pe_str pa_nil))) rfl) (pss_one (ps_ret (pe_op op_add_str (pe_op op_add_str (pe_op op_add_str (pe_op op_add_str (pe_ix ix_tup (pv 0) pe_int (fun _ _ => rfl)) pe_str) (pe_ix ix_tup (pv 0) pe_int (fun _ _ => rfl))) pe_str) (pe_ix ix_tup (pv 0) pe_int (fun _ _ => rfl))))) pss_nil)
    (pss_cons (ps_if (pt_cmpR op_in_seq (pe_ix ix_tup (pv 0) pe_int (fun _ _ => rfl)) (pe_tup (pa_cons pe_str (pa_cons pe_str pa_nil))) rfl) (pss_one (ps_ret (pe_op op_add_str (pe_op op_add_str (pe_op op_add_str (pe_op op_add_str (pe_ix ix_tup (pv 0) pe_int (fun _ _ => rfl)) pe_str) (pe_ix ix_tup (pv 0) pe_int (fun _ _ => rfl))) pe_str) (C8.pe_c c__law_text hr (by first | decide | omega) rfl (pa_cons (pe_ix ix_tup (pv 0) pe_int (fun _ _ => rfl)) pa_nil))))) pss_nil)
    (pss_one (ps_ret (pe_op op_add_str (pe_op op_add_str (pe_ix ix_tup (pv 0) pe_int (fun _ _ => rfl)) pe_str) (pe_join pe_str (pe_lc (own := [("_law_part", 1)]) (tt := tYes) rfl sc__law_text.nd (pi_tup (pe_slice sl_tup (pv 0) (po_some pe_int) po_none)) (blkOk_by (N := ["_law_node", "_law_part"]) (sc := defScope (top 68)) (by decide +kernel)) (fun _ _ _ _ _ => (pg_name (i := 1) sc__law_text.nd rfl (.inl rfl))) (fun _ _ _ _ _ => pts_nil) (fun _ _ _ _ _ => (C8.pe_c c__law_text hr (by first | decide | omega) rfl (pa_cons (pv 1) pa_nil)))))))))), ?_⟩
  cases q with
  | atom t a b =>
    obtain ⟨pr, rfl, hpr⟩ := hq
    have n0 := w4 (q := .atom t a b) (z := atS t) (by simp [Qn.words])
    have n1 := w4 (q := .atom t a b) (z := nmS a) (by simp [Qn.words])
    have n2 := w4 (q := .atom t a b) (z := nmS b) (by simp [Qn.words])
    refine ⟨_, rfl, pr, _, _, _, rfl, rfl, hpr, atN (i := 0) rfl, (by show 2 ≤ sizeLine; decide), fun d1 hd1 => ?_⟩
    have s1 := new1 (o := .tup [.str "tied", .str "same"]) hd1
    refine ⟨d1, _, rfl, .inr (.inl (.inl upd_same)), rfl, rfl, _, rfl, ite_yes (by cases t <;> decide +kernel) ?_⟩
    refine ⟨_, rfl, pr, _, _, _, rfl, rfl, sqT s1 hpr, atN (i := 0) rfl, _, _, rfl, rfl, le5 (m := 100) (by rw [l1]; omega), ?_⟩
    refine ⟨_, rfl, pr, _, _, _, rfl, rfl, sqT s1 hpr, atN (i := 1) rfl, _, _, rfl, rfl, le5 (m := 100) (by simp only [app_len, l1]; omega), ?_⟩
    refine ⟨_, _, rfl, rfl, le5 (m := 100) (by simp only [app_len, l1]; omega), ?_⟩
    refine ⟨_, rfl, pr, _, _, _, rfl, rfl, sqT s1 hpr, atN (i := 2) rfl, _, _, rfl, rfl, le5 (m := 100) (by simp only [app_len, l1]; omega), ?_⟩
    exact hQ _ _ s1 (tx_atom t a b)
  | look s a q =>
    obtain ⟨pr, uu, rfl, hpr, hq1⟩ := hq
    have n0 := w4 (q := .look s a q) (z := lookS s) (by simp [Qn.words])
    have n1 := w4 (q := .look s a q) (z := nmS a) (by simp [Qn.words])
    simp only [Qn.deep, Qn.size] at hd hz
    refine ⟨_, rfl, pr, _, _, _, rfl, rfl, hpr, atN (i := 0) rfl, (by show 2 ≤ sizeLine; decide), fun d1 hd1 => ?_⟩
    have s1 := new1 (o := .tup [.str "tied", .str "same"]) hd1
    refine ⟨d1, _, rfl, .inr (.inl (.inl upd_same)), rfl, rfl, _, rfl, ite_no (by cases s <;> decide +kernel) ?_⟩
    refine ⟨_, rfl, pr, _, _, _, rfl, rfl, sqT s1 hpr, atN (i := 0) rfl, (by show 2 ≤ sizeLine; decide), fun d2 hd2 => ?_⟩
    have s2 := same2 (o := .tup [.str "some", .str "all"]) s1 hd2
    refine ⟨d2, _, rfl, .inr (.inl (.inl upd_same)), rfl, rfl, _, rfl, ite_yes (by cases s <;> decide +kernel) ?_⟩
    refine ⟨_, rfl, pr, _, _, _, rfl, rfl, sqT s2 hpr, atN (i := 0) rfl, _, _, rfl, rfl, le5 (m := 100) (by rw [l1]; omega), ?_⟩
    refine ⟨_, rfl, pr, _, _, _, rfl, rfl, sqT s2 hpr, atN (i := 1) rfl, _, _, rfl, rfl, le5 (m := 100) (by simp only [app_len, l1]; omega), ?_⟩
    refine ⟨_, _, rfl, rfl, le5 (m := 100) (by simp only [app_len, l1]; omega), ?_⟩
    refine ⟨_, rfl, pr, _, _, _, rfl, rfl, sqT s2 hpr, atN (i := 2) rfl, uu, q, rfl, hq1.to (same_sq s2), by omega, by omega, fun tx H1 s3 htx => ?_⟩
    have htl := htx.len
    exact ⟨_, _, rfl, rfl, le5 (m := 6000) (by simp only [app_len, l1]; omega), hQ _ _ (Same.tr s2 s3) (tx_look htx)⟩
  | neg q =>
    obtain ⟨pr, uu, rfl, hpr, hq1⟩ := hq
    have n0 := w4 (q := .neg q) (z := "not") (by simp [Qn.words])
    simp only [Qn.deep, Qn.size] at hd hz
    refine ⟨_, rfl, pr, _, _, _, rfl, rfl, hpr, atN (i := 0) rfl, (by show 2 ≤ sizeLine; decide), fun d1 hd1 => ?_⟩
    have s1 := new1 (o := .tup [.str "tied", .str "same"]) hd1
    refine ⟨d1, _, rfl, .inr (.inl (.inl upd_same)), rfl, rfl, _, rfl, ite_no (by decide +kernel) ?_⟩
    refine ⟨_, rfl, pr, _, _, _, rfl, rfl, sqT s1 hpr, atN (i := 0) rfl, (by show 2 ≤ sizeLine; decide), fun d2 hd2 => ?_⟩
    have s2 := same2 (o := .tup [.str "some", .str "all"]) s1 hd2
    refine ⟨d2, _, rfl, .inr (.inl (.inl upd_same)), rfl, rfl, _, rfl, ite_no (by decide +kernel) ?_⟩
    refine ⟨_, rfl, pr, _, _, _, rfl, rfl, sqT s2 hpr, atN (i := 0) rfl, _, _, rfl, rfl, le5 (m := 100) (by rw [l1]; omega), ⟨_, rfl⟩, ?_⟩
    refine ⟨_, rfl, _, rfl, pr, _, rfl, sqT s2 hpr, (fun z => by cases whole1 z), fun p hp => ?_⟩
    rw [cut1]
    have s0 := same2 (o := .tup [uu]) s2 hp
    refine ⟨p, rfl, ⟨_, .inl (.inl upd_same)⟩, fun D hD => ?_⟩
    refine lc_made (walk_tupM [q] fun _ => uu) hD (by simp) (fun q y _ => ∃ tx, y = .str tx ∧ TxOk q tx) (fun _ _ _ _ _ _ _ h => h) (fun H' s' => .inl (.inl (s' _ _ upd_same))) (fun i u H1 ys Kk hu s3 _ hk => ?_) fun H' ys s3 hD1 hl hys => ?_
    · have hu' : u ∈ [q] := List.mem_of_getElem? hu
      rw [List.mem_singleton] at hu'
      subst hu'
      exact ⟨rfl, _, rfl, _, u, rfl, hq1.to (same_sq (Same.tr s0 s3)), by omega, by omega, fun tx H2 s4 h => hk _ _ s4 ⟨tx, rfl, h⟩⟩
    · match ys, hl with
      | [y0], _ =>
        obtain ⟨tx, rfl, h1⟩ := hys 0 q y0 rfl rfl
        have htl := h1.len
        refine ⟨" ", D, [tx], rfl, rfl, .inl (.inl (.inl hD1)), (by simp; omega), ?_⟩
        have hj : (Txt.join " " [tx]).length ≤ 5000 := by
          have : Txt.join " " [tx] = tx := rfl
          rw [this]; omega
        exact ⟨_, _, rfl, rfl, le5 (m := 6000) (by simp only [app_len, l1]; omega), hQ _ _ (Same.tr s0 s3) (tx_neg h1)⟩
  | bin o q1 q2 =>
    obtain ⟨pr, u1, u2, rfl, hpr, hq1, hq2⟩ := hq
    have n0 := w4 (q := .bin o q1 q2) (z := binS o) (by simp [Qn.words])
    simp only [Qn.deep, Qn.size] at hd hz
    refine ⟨_, rfl, pr, _, _, _, rfl, rfl, hpr, atN (i := 0) rfl, (by show 2 ≤ sizeLine; decide), fun d1 hd1 => ?_⟩
    have s1 := new1 (o := .tup [.str "tied", .str "same"]) hd1
    refine ⟨d1, _, rfl, .inr (.inl (.inl upd_same)), rfl, rfl, _, rfl, ite_no (by cases o <;> decide +kernel) ?_⟩
    refine ⟨_, rfl, pr, _, _, _, rfl, rfl, sqT s1 hpr, atN (i := 0) rfl, (by show 2 ≤ sizeLine; decide), fun d2 hd2 => ?_⟩
    have s2 := same2 (o := .tup [.str "some", .str "all"]) s1 hd2
    refine ⟨d2, _, rfl, .inr (.inl (.inl upd_same)), rfl, rfl, _, rfl, ite_no (by cases o <;> decide +kernel) ?_⟩
    refine ⟨_, rfl, pr, _, _, _, rfl, rfl, sqT s2 hpr, atN (i := 0) rfl, _, _, rfl, rfl, le5 (m := 100) (by rw [l1]; omega), ⟨_, rfl⟩, ?_⟩
    refine ⟨_, rfl, _, rfl, pr, _, rfl, sqT s2 hpr, (fun z => by cases whole1 z), fun p hp => ?_⟩
    rw [cut1]
    have s0 := same2 (o := .tup [u1, u2]) s2 hp
    refine ⟨p, rfl, ⟨_, .inl (.inl upd_same)⟩, fun D hD => ?_⟩
    refine lc_made (walk_tupM [(u1, q1), (u2, q2)] fun z => z.1) hD (by simp) (fun z y _ => ∃ tx, y = .str tx ∧ TxOk z.2 tx) (fun _ _ _ _ _ _ _ h => h) (fun H' s' => .inl (.inl (s' _ _ upd_same))) (fun i u H1 ys Kk hu s3 _ hk => ?_) fun H' ys s3 hD1 hl hys => ?_
    · have hu' : u ∈ [(u1, q1), (u2, q2)] := List.mem_of_getElem? hu
      have hh : QAt K H u.1 u.2 ∧ u.2.deep + 1 ≤ k ∧ u.2.size ≤ 1000 := by
        rcases List.mem_cons.mp hu' with rfl | hu'
        · exact ⟨hq1, by dsimp only; omega, by dsimp only; omega⟩
        · rw [List.mem_singleton] at hu'
          subst hu'
          exact ⟨hq2, by dsimp only; omega, by dsimp only; omega⟩
      exact ⟨rfl, _, rfl, _, u.2, rfl, hh.1.to (same_sq (Same.tr s0 s3)), hh.2.1, hh.2.2, fun tx H2 s4 h => hk _ _ s4 ⟨tx, rfl, h⟩⟩
    · match ys, hl with
      | [y0, y1], _ =>
        obtain ⟨tx, rfl, h1⟩ := hys 0 (u1, q1) y0 rfl rfl
        obtain ⟨ty, rfl, h2⟩ := hys 1 (u2, q2) y1 rfl rfl
        have htl := h1.len
        have htl2 := h2.len
        dsimp only at htl htl2
        refine ⟨" ", D, [tx, ty], rfl, rfl, .inl (.inl (.inl hD1)), (by rw [l1]; simp; omega), ?_⟩
        have hj : (Txt.join " " [tx, ty]).length ≤ 5005 := by
          have e0 : Txt.join " " [tx, ty] = tx ++ " " ++ ty := by
            refine TL.ext_tl ?_
            rw [show Txt.join " " [tx, ty] = _ from TL.join_eq _ _, TL.tl_join, TL.tl_append, TL.tl_append, List.append_assoc] <;> rfl
          rw [e0, app_len, app_len, l1]; omega
        exact ⟨_, _, rfl, rfl, le5 (m := 6000) (by simp only [app_len, l1]; omega), hQ _ _ (Same.tr s0 s3) (tx_bin h1 h2)⟩
theorem c__law_text (e : Ev w K mg cS cQ cT) : ∀ n, C8.Cal P w K mg base n "_law_text" (spText K n) []
  | 0 => calNone e.d_law_text b__law_text fun vs H Q E ⟨_, _, _, _, h, _⟩ => by omega
  | n + 1 => s__law_text e (c__law_text e n)
end
end K61

end

section
set_option linter.all false
set_option maxRecDepth 100000
set_option maxHeartbeats 4000000
/-! K61, walk 19: the law's own reading of a question. -/
namespace K61
open PySem PySem.Spec PyProof.Rows L2
section
variable {P : Program} {w : World} {K : PySem.W.Frag} {mg : Str → Option Value} {base : Heap} {cS cQ cT : Addr}
def heldL (en : Nm → Nat) : List V := [nV (en .x), nV (en .y), nV (en .z)]
def nmOf : Nat → Nm
  | 0 => .x
  | 1 => .y
  | _ => .z
theorem held_at (en : Nm → Nat) (a : Nm) : atI (heldL en) (Txt.find "xyz" (nmS a)) = some (nV (en a)) := by
  have h : ∀ a : Nm, (Txt.find "xyz" (nmS a) : Int) = ((match a with | .x => 0 | .y => 1 | .z => 2 : Nat) : Int) := fun a => by cases a <;> decide +kernel
  rw [h a]
  cases a <;> exact atN rfl
theorem xyz_at {i : Nat} (hi : i < 3) {x1 : V} (h : (("xyz" : Str).cps[i]?.map fun c => V.str ⟨#[c]⟩) = some x1) : x1 = .str (nmS (nmOf i)) := by
  have e0 : ("xyz" : Str) = SX.S [120, 121, 122] := by decide +kernel
  have ex : nmS .x = SX.S [120] := by decide +kernel
  have ey : nmS .y = SX.S [121] := by decide +kernel
  have ez : nmS .z = SX.S [122] := by decide +kernel
  rw [e0] at h
  match i, hi, h with
  | 0, _, h => cases h; show V.str (SX.S [120]) = V.str (nmS .x); rw [ex]
  | 1, _, h => cases h; show V.str (SX.S [121]) = V.str (nmS .y); rw [ey]
  | 2, _, h => cases h; show V.str (SX.S [122]) = V.str (nmS .z); rw [ez]
theorem held_i {en : Nm → Nat} {i : Nat} (hi : i < 3) {v : V} (h : (heldL en)[i]? = some v) : v = nV (en (nmOf i)) := by
  match i, hi, h with
  | 0, _, h => cases h; rfl
  | 1, _, h => cases h; rfl
  | 2, _, h => cases h; rfl
theorem sc__law_holds : FnScope ["_law_node", "_law_rows_here", "_law_held", "_law_one", "_law_other", "_law_thing", "_law_now", "_law_name", "_law_kept"] ["_law_node", "_law_rows_here", "_law_held"] (defScope (top 71)) := ⟨rfl, rfl, rfl, by decide +kernel, rfl, by decide +kernel, by decide +kernel⟩
def spLHolds (K : PySem.W.Frag) (k : Nat) : Sp := fun vs H Q _ => ∃ (r : V) (F h : Addr) (q : Qn) (n : Nat) (adj : Nat → Nat → Bool) (en : Nm → Nat), vs = [r, .ref F, .ref h] ∧ QAt K H r q ∧ q.deep + 1 ≤ k ∧ RowsAt H F n (fun a b => adj a b = true) ∧ n ≤ 1000 ∧
  H h = some (.lst (heldL en)) ∧ (∀ a, en a < n) ∧ ∀ H', Same H H' → Q (.bl (sem n adj q en)) H'
theorem b__law_holds : BindOk "_law_holds" "_law_holds" (top 71) ["_law_node", "_law_rows_here", "_law_held"] := fun _ _ _ _ _ _ us hl => match us, hl with | [_, _, _], _ => rfl
theorem s__law_holds {k : Nat} (e : Ev w K mg cS cQ cT) (c__law_holds : C8.Cal P w K mg base k "_law_holds" (spLHolds K k) []) : C8.Cal P w K mg base (k + 1) "_law_holds" (spLHolds K (k + 1)) [] := by
  refine calD e.d_law_holds b__law_holds sc__law_holds (fun vs H Q E h => ?_) fun f cdv A outer s H vs Q E hr h => ?_
  · obtain ⟨r, F, h0, _, _, _, _, rfl, _⟩ := h; rfl
  obtain ⟨r, F, h0, q, n, adj, en, rfl, hq, hd, hF, hn1, hh0, hlt, hQ⟩ := h
  refine ⟨_, (pss_cons (ps_if (pt_cmpR op_in_seq (pe_ix ix_tup (pv 0) pe_int (fun _ _ => rfl)) (pe_tup (pa_cons pe_str (pa_cons pe_str pa_nil))) rfl) (pss_cons (ps_asg (pe_lc (own := [("_law_name", 7)]) (tt := tYes) rfl sc__law_holds.nd (pi_tup (pe_slice sl_tup (pv 0) (po_some pe_int) po_none)) (blkOk_by (N := ["_law_node", "_law_rows_here", "_law_held", "_law_one", "_law_other", "_law_thing", "_law_now", "_law_name", "_law_kept"]) (sc := defScope (top 71)) (by decide +kernel)) (fun _ _ _ _ _ => (pg_name (i := 7) sc__law_holds.nd rfl (.inl rfl))) (fun _ _ _ _ _ => pts_nil) (fun _ _ _ _ _ => (pe_ix (ixLK (K := K) rfl) (pv 2) (pe_m1 PySem.F.slot_str_find PySem.F.type_str_find mt_find pe_str (pv 7)) (fun _ _ => rfl)))) (pg_lst rfl (pgs_cons (pg_name (i := 3) sc__law_holds.nd rfl (.inl rfl)) (pgs_cons (pg_name (i := 4) sc__law_holds.nd rfl (.inl rfl)) pgs_nil))))
      (pss_one (ps_ret (pe_ifExp (pt_cmpR op_eq (pe_ix ix_tup (pv 0) pe_int (fun _ _ => rfl)) pe_str (nomark _)) (pe_cmpR op_eq (pv 3) (pv 4) (nomark _)) (pe_cmpR op_in_seq (pv 4) (pe_ix ix_list (pv 1) (pv 3) (fun _ _ => rfl)) rfl))))) pss_nil)
    (pss_cons (ps_if (pt_cmpR op_eq (pe_ix ix_tup (pv 0) pe_int (fun _ _ => rfl)) pe_str (nomark _)) (pss_one (ps_ret (pe_not (C8.pe_c c__law_holds hr (by first | decide | omega) rfl (pa_cons (pe_ix ix_tup (pv 0) pe_int (fun _ _ => rfl)) (pa_cons (pv 1) (pa_cons (pv 2) pa_nil))))))) pss_nil)
    (pss_cons (ps_if (pt_cmpR op_in_seq (pe_ix ix_tup (pv 0) pe_int (fun _ _ => rfl)) (pe_tup (pa_cons pe_str (pa_cons pe_str pa_nil))) rfl) (pss_cons (ps_if (pt_cmpR op_eq (C8.pe_c c__law_holds hr (by first | decide | omega) rfl (pa_cons (pe_ix ix_tup (pv 0) pe_int (fun _ _ => rfl)) (pa_cons (pv 1) (pa_cons (pv 2) pa_nil)))) (pe_cmpR op_eq (pe_ix ix_tup (pv 0) pe_int (fun _ _ => rfl)) pe_str (nomark _)) (nomark _)) (pss_one (ps_ret (pe_cmpR op_eq (pe_ix ix_tup (pv 0) pe_int (fun _ _ => rfl)) pe_str (nomark _)))) pss_nil)
      (pss_one (ps_ret (C8.pe_c c__law_holds hr (by first | decide | omega) rfl (pa_cons (pe_ix ix_tup (pv 0) pe_int (fun _ _ => rfl)) (pa_cons (pv 1) (pa_cons (pv 2) pa_nil))))))) pss_nil)
    (pss_cons (ps_for PassesOwn.never rfl (pi_range1 rfl e.n_range (pa_cons (pe_callB call_len_seq rfl e.n_len (by decide +kernel) (pa_cons (pv 1) pa_nil)) pa_nil)) (pg_name (i := 5) sc__law_holds.nd rfl (.inr rfl))
    (pss_cons (ps_setLc (i := 6) (own := [("_law_name", 7), ("_law_kept", 8)]) (g := (gTup K 2 (gCons (gName 7) (gCons (gName 8) gNil)))) (tt := tYes) rfl sc__law_holds.nd rfl rfl (sw_true rfl rfl rfl (by decide +kernel)) (pi_zipS rfl e.n_zip (pa_cons pe_str (pa_cons (pv 2) pa_nil))) (blkOk_by (N := ["_law_node", "_law_rows_here", "_law_held", "_law_one", "_law_other", "_law_thing", "_law_now", "_law_name", "_law_kept"]) (sc := defScope (top 71)) (by decide +kernel)) (fun _ _ _ _ _ => (pg_tup rfl (pgs_cons (pg_name (i := 7) sc__law_holds.nd rfl (.inl rfl)) (pgs_cons (pg_name (i := 8) sc__law_holds.nd rfl (.inl rfl)) pgs_nil)))) (fun _ _ _ _ _ => pts_nil) (fun _ _ _ _ _ => (pe_ifExp (pt_cmpR op_eq (pv 7) (pe_ix (ixTK (K := K) rfl) (pv 0) pe_int (fun _ _ => rfl)) (nomark _)) (pv 5) (pv 8))))
      (pss_one (ps_if (pt_cmpR op_eq (C8.pe_c c__law_holds hr (by first | decide | omega) rfl (pa_cons (pe_ix ix_tup (pv 0) pe_int (fun _ _ => rfl)) (pa_cons (pv 1) (pa_cons (pv 6) pa_nil)))) (pe_cmpR op_eq (pe_ix ix_tup (pv 0) pe_int (fun _ _ => rfl)) pe_str (nomark _)) (nomark _)) (pss_one (ps_ret (pe_cmpR op_eq (pe_ix ix_tup (pv 0) pe_int (fun _ _ => rfl)) pe_str (nomark _)))) pss_nil))))
    (pss_one (ps_ret (pe_cmpR op_eq (pe_ix ix_tup (pv 0) pe_int (fun _ _ => rfl)) pe_str (nomark _)))))))), ?_⟩
  cases q with
  | atom t a b =>
    obtain ⟨pr, rfl, hpr⟩ := hq
    refine ⟨_, rfl, pr, _, _, _, rfl, rfl, hpr, atN (i := 0) rfl, (by show 2 ≤ sizeLine; decide), fun d1 hd1 => ?_⟩
    have s1 := new1 (o := .tup [.str "tied", .str "same"]) hd1
    refine ⟨d1, _, rfl, .inr (.inl (.inl upd_same)), rfl, rfl, _, rfl, ite_yes (by cases t <;> decide +kernel) ?_⟩
    refine ⟨_, rfl, _, rfl, pr, _, rfl, sqT s1 hpr, (fun z => by cases whole1 z), fun p hp => ?_⟩
    rw [cut1]
    have s2 := same2 (o := .tup [.str (nmS a), .str (nmS b)]) s1 hp
    refine ⟨p, rfl, ⟨_, .inl (.inl upd_same)⟩, fun D hD => ?_⟩
    refine lc_each (walk_tupM [a, b] fun c => .str (nmS c)) hD (by simp) (fun c => nV (en c)) (fun H' s' => .inl (.inl (s' _ _ upd_same))) (fun i c H2 ys Kk hc s3 _ hk => ?_) fun H2 s3 hD2 => ?_
    · exact ⟨rfl, _, rfl, ⟨_, rfl⟩, _, rfl, _, _, rfl, rfl, h0, _, _, _, rfl, rfl, .inl (.inl (Same.tr s2 s3 _ _ hh0)), held_at en c, hk _ (Same.refl _)⟩
    · have s4 := Same.tr s2 s3
      refine ⟨D, _, rfl, .inl (.inl hD2), rfl, _, _, rfl, _, _, rfl, rfl, ?_⟩
      refine ⟨_, rfl, pr, _, _, _, rfl, rfl, sqT s4 hpr, atN (i := 0) rfl, rfl, _, rfl, ?_⟩
      cases t with
      | false =>
        refine ite_yes (by decide +kernel) ⟨_, rfl, _, rfl, rfl, ?_⟩
        have e1 : sem n adj (.atom false a b) en = decide (V.int (en a : Int) = V.int (en b : Int)) := by
          show decide (en a = en b) = _
          by_cases c : en a = en b
          · rw [decide_eq_true c, c]
            exact (decide_eq_true rfl).symm
          · rw [decide_eq_false c]
            exact (decide_eq_false fun y => c (by have := V.int.inj y; omega)).symm
        have z := fun H' s' => hQ H' s'
        rw [e1] at z
        exact z _ s4
      | true =>
        obtain ⟨rs, h1, h2, h3⟩ := hF.to s4
        have hlen : en a < rs.length := by rw [h1]; exact hlt a
        obtain ⟨js, hj, hrel⟩ := h3 (en a) _ (List.getElem?_eq_getElem hlen)
        refine ite_no (by decide +kernel) ⟨_, rfl, _, rfl, _, rfl, F, _, _, _, rfl, rfl, .inl (.inl h2), atN (v := .ref rs[en a]) (by rw [List.getElem?_map, List.getElem?_eq_getElem hlen] <;> rfl), ?_⟩
        refine ⟨_, _, rfl, .inl (.inl (.inl hj)), rfl, flat_nV js, ?_⟩
        have e1 : sem n adj (.atom true a b) en = inV (nV (en b)) (js.map nV) := by
          rw [inV_nV]
          show adj (en a) (en b) = _
          cases c : adj (en a) (en b) with
          | true => exact (decide_eq_true ((hrel _).mpr c)).symm
          | false => exact (decide_eq_false fun y => absurd (c.symm.trans ((hrel _).mp y)) (by simp)).symm
        have z := fun H' s' => hQ H' s'
        rw [e1] at z
        exact z _ s4
  | neg q =>
    obtain ⟨pr, uu, rfl, hpr, hq1⟩ := hq
    simp only [Qn.deep] at hd
    refine ⟨_, rfl, pr, _, _, _, rfl, rfl, hpr, atN (i := 0) rfl, (by show 2 ≤ sizeLine; decide), fun d1 hd1 => ?_⟩
    have s1 := new1 (o := .tup [.str "tied", .str "same"]) hd1
    refine ⟨d1, _, rfl, .inr (.inl (.inl upd_same)), rfl, rfl, _, rfl, ite_no (by decide +kernel) ?_⟩
    refine ⟨_, rfl, pr, _, _, _, rfl, rfl, sqT s1 hpr, atN (i := 0) rfl, rfl, _, rfl, ite_yes (by decide +kernel) ?_⟩
    exact ⟨_, rfl, pr, _, _, _, rfl, rfl, sqT s1 hpr, atN (i := 1) rfl, _, rfl, _, rfl, uu, F, h0, q, n, adj, en, rfl, hq1.to (same_sq s1), by omega, hF.to s1, hn1, s1 _ _ hh0, hlt, fun H' s' => ⟨_, rfl, hQ H' (Same.tr s1 s')⟩⟩
  | bin o q1 q2 =>
    obtain ⟨pr, u1, u2, rfl, hpr, hq1, hq2⟩ := hq
    simp only [Qn.deep] at hd
    have no : decide (V.str (binS o) = V.str "or") = o := by cases o <;> decide +kernel
    refine ⟨_, rfl, pr, _, _, _, rfl, rfl, hpr, atN (i := 0) rfl, (by show 2 ≤ sizeLine; decide), fun d1 hd1 => ?_⟩
    have s1 := new1 (o := .tup [.str "tied", .str "same"]) hd1
    refine ⟨d1, _, rfl, .inr (.inl (.inl upd_same)), rfl, rfl, _, rfl, ite_no (by cases o <;> decide +kernel) ?_⟩
    refine ⟨_, rfl, pr, _, _, _, rfl, rfl, sqT s1 hpr, atN (i := 0) rfl, rfl, _, rfl, ite_no (by cases o <;> decide +kernel) ?_⟩
    refine ⟨_, rfl, pr, _, _, _, rfl, rfl, sqT s1 hpr, atN (i := 0) rfl, (by show 2 ≤ sizeLine; decide), fun d2 hd2 => ?_⟩
    have s2 := same2 (o := .tup [.str "and", .str "or"]) s1 hd2
    refine ⟨d2, _, rfl, .inr (.inl (.inl upd_same)), rfl, rfl, _, rfl, ite_yes (by cases o <;> decide +kernel) ?_⟩
    refine ⟨_, rfl, pr, _, _, _, rfl, rfl, sqT s2 hpr, atN (i := 1) rfl, _, rfl, _, rfl, u1, F, h0, q1, n, adj, en, rfl, hq1.to (same_sq s2), by omega, hF.to s2, hn1, s2 _ _ hh0, hlt, fun H1 s3 => ?_⟩
    have s4 := Same.tr s2 s3
    refine ⟨_, rfl, pr, _, _, _, rfl, rfl, sqT s4 hpr, atN (i := 0) rfl, rfl, rfl, _, rfl, ?_⟩
    rw [no]
    generalize hc : sem n adj q1 en = c
    by_cases co : c = o
    · refine ite_yes (decide_eq_true (congrArg V.bl co)) ⟨_, rfl, pr, _, _, _, rfl, rfl, sqT s4 hpr, atN (i := 0) rfl, rfl, ?_⟩
      rw [no]
      have z := fun H' s' => hQ H' s'
      have e1 : sem n adj (.bin o q1 q2) en = o := by
        subst co
        cases c
        · show (sem n adj q1 en && sem n adj q2 en) = false; rw [hc] <;> rfl
        · show (sem n adj q1 en || sem n adj q2 en) = true; rw [hc] <;> rfl
      rw [e1] at z
      exact z _ s4
    · refine ite_no (decide_eq_false fun z => co (V.bl.inj z)) ?_
      refine ⟨_, rfl, pr, _, _, _, rfl, rfl, sqT s4 hpr, atN (i := 2) rfl, _, rfl, _, rfl, u2, F, h0, q2, n, adj, en, rfl, hq2.to (same_sq s4), by omega, hF.to s4, hn1, s4 _ _ hh0, hlt, fun H2 s5 => ?_⟩
      have z := fun H' s' => hQ H' s'
      have e1 : sem n adj (.bin o q1 q2) en = sem n adj q2 en := by
        cases o
        · have : c = true := by cases c; exact absurd rfl co; rfl
          show (sem n adj q1 en && sem n adj q2 en) = _; rw [hc, this, Bool.true_and]
        · have : c = false := by cases c; rfl; exact absurd rfl co
          show (sem n adj q1 en || sem n adj q2 en) = _; rw [hc, this, Bool.false_or]
      rw [e1] at z
      exact z _ (Same.tr s4 s5)
  | look s a q =>
    obtain ⟨pr, uu, rfl, hpr, hq1⟩ := hq
    simp only [Qn.deep] at hd
    have ns : decide (V.str (lookS s) = V.str "some") = s := by cases s <;> decide +kernel
    have na : decide (V.str (lookS s) = V.str "all") = !s := by cases s <;> decide +kernel
    refine ⟨_, rfl, pr, _, _, _, rfl, rfl, hpr, atN (i := 0) rfl, (by show 2 ≤ sizeLine; decide), fun d1 hd1 => ?_⟩
    have s1 := new1 (o := .tup [.str "tied", .str "same"]) hd1
    refine ⟨d1, _, rfl, .inr (.inl (.inl upd_same)), rfl, rfl, _, rfl, ite_no (by cases s <;> decide +kernel) ?_⟩
    refine ⟨_, rfl, pr, _, _, _, rfl, rfl, sqT s1 hpr, atN (i := 0) rfl, rfl, _, rfl, ite_no (by cases s <;> decide +kernel) ?_⟩
    refine ⟨_, rfl, pr, _, _, _, rfl, rfl, sqT s1 hpr, atN (i := 0) rfl, (by show 2 ≤ sizeLine; decide), fun d2 hd2 => ?_⟩
    have s2 := same2 (o := .tup [.str "and", .str "or"]) s1 hd2
    refine ⟨d2, _, rfl, .inr (.inl (.inl upd_same)), rfl, rfl, _, rfl, ite_no (by cases s <;> decide +kernel) ?_⟩
    obtain ⟨rs, h1, h2, h3⟩ := hF.to s2
    have hl : (rs.map V.ref).length = n := by rw [List.length_map, h1]
    refine ⟨_, rfl, F, _, rfl, .inl (.inl (.inl h2)), _, rfl, by rw [hl]; omega, by rw [hl]; omega, ?_⟩
    have hlen : ((rs.map V.ref).length : Int).toNat = n := by rw [hl]; omega
    rw [hlen]
    refine for_same (walk_rangeN (n := n)) (fun i σ' => (∃ t3 t4 t5 t6 t7 t8, σ' = [some (.ref pr), some (.ref F), some (.ref h0), t3, t4, t5, t6, t7, t8]) ∧ ∀ t, t < i → sem n adj q (putN en a t) = !s)
      ⟨⟨_, _, _, _, _, _, rfl⟩, fun t h => absurd h (Nat.not_lt_zero _)⟩ (fun H' s' => trivial) (fun i y σ' H2 H3 N hi s3 hP hY hN => ?_) fun σ' H2 s3 hP => ?_
    · obtain ⟨rfl, rfl⟩ := hY
      obtain ⟨⟨t3, t4, t5, t6, t7, t8, rfl⟩, hpre⟩ := hP
      have s4 := Same.tr s2 s3
      have hh4 := s4 _ _ hh0
      refine ⟨_, rfl, "xyz", h0, heldL en, rfl, by decide +kernel, .inl (.inl hh4), fun D hD => ?_⟩
      have h3 : 3 = min ("xyz" : Str).cps.size (heldL en).length := by
        have : ("xyz" : Str).cps.size = 3 := by decide +kernel
        rw [this] <;> rfl
      refine lc_told (walk_zipS (n := 3) h3) hD (by decide) (heldL (putN en a i)) rfl (fun H' s' => .inl (.inl (s' _ _ hh4))) (fun m x y H5 H6 ys Kk hy s5 _ hY hk => ?_) fun H5 s5 hD5 => ?_
      · obtain ⟨T, x1, x2, rfl, hT, rfl, e1, e2⟩ := hY
        have hm : m < 3 := by
          have := (List.getElem?_eq_some_iff.mp hy).1
          exact this
        have f1 := xyz_at hm e1
        have f2 := held_i hm e2
        have f3 := held_i hm hy
        subst f1 f2 f3
        have s6 := new1 (o := .tup [.str (nmS (nmOf m)), nV (en (nmOf m))]) hT
        refine ⟨T, _, rfl, .inl (.inl upd_same), rfl, _, _, rfl, _, _, rfl, rfl, rfl, _, rfl, _, rfl, pr, _, _, _, rfl, rfl, sqT (Same.tr s4 (Same.tr s5 s6)) hpr, atN (i := 1) rfl, rfl, _, rfl, ?_⟩
        refine ite2 (fun c => ⟨_, rfl, ?_⟩) fun c => ⟨_, rfl, ?_⟩
        · have ca : nmOf m = a := nmS_inj (V.str.inj (of_decide_eq_true c))
          have ev : putN en a i (nmOf m) = i := by rw [ca]; show (if a = a then i else en a) = i; rw [if_pos rfl]
          rw [ev] at hk
          exact hk _ s6
        · have ca : nmOf m ≠ a := fun z => of_decide_eq_false (Bool.eq_false_iff.mpr c) (by rw [z])
          have ev : putN en a i (nmOf m) = en (nmOf m) := by show (if nmOf m = a then i else en (nmOf m)) = _; rw [if_neg ca]
          rw [ev] at hk
          exact hk _ s6
      have s6 := Same.tr s4 s5
      refine ⟨_, rfl, pr, _, _, _, rfl, rfl, sqT s6 hpr, atN (i := 2) rfl, _, rfl, _, rfl, uu, F, D, q, n, adj, putN en a i, rfl, hq1.to (same_sq s6), by omega, hF.to s6, hn1, hD5, fun b => ?_, fun H7 s7 => ?_⟩
      · unfold putN
        split
        · exact hi
        · exact hlt b
      · have s8 := Same.tr s6 s7
        refine ⟨_, rfl, pr, _, _, _, rfl, rfl, sqT s8 hpr, atN (i := 0) rfl, rfl, rfl, _, rfl, ?_⟩
        rw [ns]
        generalize hc : sem n adj q (putN en a i) = c
        by_cases cs : c = s
        · refine ite_yes (decide_eq_true (congrArg V.bl cs)) ⟨_, rfl, pr, _, _, _, rfl, rfl, sqT s8 hpr, atN (i := 0) rfl, rfl, ?_⟩
          rw [ns]
          have z := fun H' s' => hQ H' s'
          rw [sem_hit hi (hc.trans cs)] at z
          exact z _ s8
        · refine ite_no (decide_eq_false fun z => cs (V.bl.inj z)) ?_
          refine hN _ _ (Same.tr s3 (Same.tr s5 s7)) ⟨⟨_, _, _, _, _, _, rfl⟩, fun t ht => ?_⟩
          by_cases z : t = i
          · rw [z, hc]
            cases c <;> cases s <;> first | rfl | exact absurd rfl cs
          · exact hpre t (by omega)
    · obtain ⟨⟨t3, t4, t5, t6, t7, t8, rfl⟩, hpre⟩ := hP
      refine ⟨_, rfl, pr, _, _, _, rfl, rfl, sqT (Same.tr s2 s3) hpr, atN (i := 0) rfl, rfl, ?_⟩
      rw [na]
      have z := fun H' s' => hQ H' s'
      rw [sem_end hpre] at z
      exact z _ (Same.tr s2 s3)
theorem c__law_holds (e : Ev w K mg cS cQ cT) : ∀ n, C8.Cal P w K mg base n "_law_holds" (spLHolds K n) []
  | 0 => calNone e.d_law_holds b__law_holds fun vs H Q E ⟨_, _, _, _, _, _, _, _, _, h, _⟩ => by omega
  | n + 1 => s__law_holds e (c__law_holds e n)
end
end K61

end

section
set_option linter.all false
set_option maxRecDepth 100000
/-! K61, maths 4: towns of copies. -/
namespace K61
open PySem PySem.Spec PyProof.Rows L2
def shiftP (k : Nat) (ts : List (Nat × Nat)) : List (Nat × Nat) := ts.map fun p => (p.1 + k, p.2 + k)
def copiesL (n : Nat) (ts : List (Nat × Nat)) : Nat → List (Nat × Nat)
  | 0 => []
  | c + 1 => copiesL n ts c ++ shiftP (n * c) ts
theorem copies_len (n : Nat) (ts : List (Nat × Nat)) : ∀ c, (copiesL n ts c).length = ts.length * c
  | 0 => rfl
  | c + 1 => by
    show (copiesL n ts c ++ shiftP (n * c) ts).length = _
    rw [List.length_append, copies_len n ts c, Nat.mul_succ]
    unfold shiftP
    rw [List.length_map]
theorem copies_lt {n : Nat} {ts : List (Nat × Nat)} (h : ∀ p ∈ ts, p.1 ≠ p.2 ∧ p.1 < n ∧ p.2 < n) : ∀ c, ∀ p ∈ copiesL n ts c, p.1 ≠ p.2 ∧ p.1 < n * c ∧ p.2 < n * c
  | 0, _, hp => by cases hp
  | c + 1, p, hp => by
    have e : n * (c + 1) = n * c + n := Nat.mul_succ n c
    rcases List.mem_append.mp hp with hp | hp
    · have := copies_lt h c p hp
      exact ⟨this.1, by omega, by omega⟩
    · obtain ⟨r, hr, rfl⟩ := List.mem_map.mp hp
      have := h r hr
      exact ⟨by dsimp only; omega, by dsimp only; omega, by dsimp only; omega⟩
theorem copies_nodup {n : Nat} {ts : List (Nat × Nat)} (h : ∀ p ∈ ts, p.1 ≠ p.2 ∧ p.1 < n ∧ p.2 < n) (hn : (ts.map norm).Nodup) : ∀ c, ((copiesL n ts c).map norm).Nodup
  | 0 => .nil
  | c + 1 => by
    show ((copiesL n ts c ++ shiftP (n * c) ts).map norm).Nodup
    rw [List.map_append]
    refine List.nodup_append.mpr ⟨copies_nodup h hn c, ?_, fun x hx y hy z => ?_⟩
    · have e : (shiftP (n * c) ts).map norm = shiftP (n * c) (ts.map norm) := by
        unfold shiftP
        rw [List.map_map, List.map_map]
        refine List.map_congr_left fun p _ => ?_
        show norm (p.1 + n * c, p.2 + n * c) = ((norm p).1 + n * c, (norm p).2 + n * c)
        unfold norm
        simp only [Prod.mk.injEq]
        omega
      rw [e]
      unfold shiftP
      refine List.Pairwise.map _ (fun a b hab z => hab ?_) hn
      have z1 := congrArg Prod.fst z
      have z2 := congrArg Prod.snd z
      dsimp only at z1 z2
      exact Prod.ext (by omega) (by omega)
    · subst z
      obtain ⟨p, hp, e1⟩ := List.mem_map.mp hx
      obtain ⟨r, hr, e2⟩ := List.mem_map.mp hy
      obtain ⟨r', hr', rfl⟩ := List.mem_map.mp hr
      have h1 := copies_lt h c p hp
      rw [← e1] at e2
      unfold norm at e2
      simp only [Prod.mk.injEq] at e2
      omega
theorem adjP_of {ts : List (Nat × Nat)} {a b : Nat} : adjP ts a b = true ↔ (a, b) ∈ ts ∨ (b, a) ∈ ts := by
  unfold adjP
  rw [Bool.or_eq_true, decide_eq_true_eq, decide_eq_true_eq]
theorem adjP_norm (ts : List (Nat × Nat)) (a b : Nat) : adjP (ts.map norm) a b = adjP ts a b := by
  rw [Bool.eq_iff_iff, adjP_of, adjP_of]
  constructor
  · intro h
    rcases h with h | h <;>
    · obtain ⟨p, hp, e⟩ := List.mem_map.mp h
      unfold norm at e
      simp only [Prod.mk.injEq] at e
      have : p = (a, b) ∨ p = (b, a) := by
        rcases Nat.le_total p.1 p.2 with c | c
        · first | exact .inl (Prod.ext (by dsimp only; omega) (by dsimp only; omega)) | exact .inr (Prod.ext (by dsimp only; omega) (by dsimp only; omega))
        · first | exact .inr (Prod.ext (by dsimp only; omega) (by dsimp only; omega)) | exact .inl (Prod.ext (by dsimp only; omega) (by dsimp only; omega))
      rcases this with rfl | rfl
      · exact .inl hp
      · exact .inr hp
  · intro h
    have hh : ∀ x y, (x, y) ∈ ts → norm (x, y) = (a, b) ∨ norm (x, y) = (b, a) → (a, b) ∈ ts.map norm ∨ (b, a) ∈ ts.map norm := fun x y hm e => by
      rcases e with e | e
      · exact .inl (List.mem_map.mpr ⟨_, hm, e⟩)
      · exact .inr (List.mem_map.mpr ⟨_, hm, e⟩)
    rcases h with h | h
    · refine hh a b h ?_
      unfold norm
      simp only [Prod.mk.injEq]
      omega
    · refine hh b a h ?_
      unfold norm
      simp only [Prod.mk.injEq]
      omega
theorem adjP_perm {ts us : List (Nat × Nat)} (h : us.Perm (ts.map norm)) : adjP us = adjP ts := by
  funext a b
  rw [← adjP_norm ts]
  rw [Bool.eq_iff_iff, adjP_of, adjP_of, h.mem_iff, h.mem_iff]
theorem adjP_irr {ts : List (Nat × Nat)} (h : ∀ p ∈ ts, p.1 ≠ p.2) (a : Nat) : adjP ts a a = false := by
  rw [Bool.eq_false_iff]
  intro z
  rcases adjP_of.mp z with z | z <;> exact h _ z rfl
theorem copies_mem {n : Nat} {ts : List (Nat × Nat)} (h : ∀ p ∈ ts, p.1 ≠ p.2 ∧ p.1 < n ∧ p.2 < n) (a b : Nat) : ∀ c, (a, b) ∈ copiesL n ts c ↔ a / n = b / n ∧ a / n < c ∧ (a % n, b % n) ∈ ts
  | 0 => by simp [copiesL]
  | c + 1 => by
    show (a, b) ∈ copiesL n ts c ++ shiftP (n * c) ts ↔ _
    rw [List.mem_append, copies_mem h a b c]
    constructor
    · intro k
      rcases k with k | k
      · exact ⟨k.1, by omega, k.2.2⟩
      · obtain ⟨p, hp, e⟩ := List.mem_map.mp k
        have hb := h p hp
        simp only [Prod.mk.injEq] at e
        obtain ⟨e1, e2⟩ := e
        have hn : 0 < n := by omega
        have q1 := at_copy (n := n) hn (i := c) hb.2.1
        have q2 := at_copy (n := n) hn (i := c) hb.2.2
        have f1 : a = n * c + p.1 := by omega
        have f2 : b = n * c + p.2 := by omega
        rw [f1, f2, q1.1, q1.2, q2.1, q2.2]
        exact ⟨rfl, Nat.lt_succ_self c, hp⟩
    · intro ⟨k1, k2, k3⟩
      by_cases e : a / n < c
      · exact .inl ⟨k1, e, k3⟩
      · have ea : a / n = c := by omega
        refine .inr (List.mem_map.mpr ⟨_, k3, ?_⟩)
        have d1 := Nat.div_add_mod a n
        have d2 := Nat.div_add_mod b n
        rw [← k1] at d2
        rw [ea] at d1 d2
        simp only [Prod.mk.injEq]
        omega
theorem adjP_copies {n c : Nat} {ts : List (Nat × Nat)} (hn : 0 < n) (h : ∀ p ∈ ts, p.1 ≠ p.2 ∧ p.1 < n ∧ p.2 < n) {a b : Nat} (ha : a < n * c) (hb : b < n * c) : adjP (copiesL n ts c) a b = adjC n (adjP ts) a b := by
  have h1 := copy_lt (n := n) hn ha
  have h2 := copy_lt (n := n) hn hb
  rw [Bool.eq_iff_iff, adjP_of, copies_mem h, copies_mem h]
  unfold adjC
  rw [Bool.and_eq_true, decide_eq_true_eq, adjP_of]
  constructor
  · intro k
    rcases k with k | k
    · exact ⟨k.1, .inl k.2.2⟩
    · exact ⟨k.1.symm, .inr k.2.2⟩
  · intro ⟨k1, k2⟩
    rcases k2 with k2 | k2
    · exact .inl ⟨k1, h1, k2⟩
    · exact .inr ⟨k1.symm, h2, k2⟩
theorem any_range {n : Nat} {f g : Nat → Bool} (h : ∀ c, c < n → f c = g c) : (List.range n).any f = (List.range n).any g := by
  rw [Bool.eq_iff_iff, List.any_eq_true, List.any_eq_true]
  constructor
  · intro ⟨c, hc, e⟩
    exact ⟨c, hc, by rw [← h c (List.mem_range.mp hc)]; exact e⟩
  · intro ⟨c, hc, e⟩
    exact ⟨c, hc, by rw [h c (List.mem_range.mp hc)]; exact e⟩
theorem sight_congr {n : Nat} {f g : Nat → Nat → Bool} (h : ∀ a b, a < n → b < n → f a b = g a b) {a b : Nat} (ha : a < n) (hb : b < n) : sight n f a b = sight n g a b := by
  have e : lots n f a b = lots n g a b := by
    unfold lots
    refine List.filter_congr fun k _ => any_range fun c hc => ?_
    unfold code
    rw [h a c ha hc, h b c hb hc]
  unfold sight
  rw [h a b ha hb, e]
theorem view_congr {n : Nat} {f g : Nat → Nat → Bool} (h : ∀ a b, a < n → b < n → f a b = g a b) {a : Nat} (ha : a < n) : view n f a = view n g a := by
  unfold view
  refine List.filter_congr fun s _ => any_range fun b hb => ?_
  rw [sight_congr h ha hb]
end K61

end

section
set_option linter.all false
set_option maxRecDepth 100000
set_option maxHeartbeats 4000000
/-! K61, walk 20: copies; what is asked of an atom. -/
namespace K61
open PySem PySem.Spec PyProof.Rows L2
section
variable {P : Program} {w : World} {K : PySem.W.Frag} {mg : Str → Option Value} {base : Heap} {cS cQ cT : Addr}
theorem sc__law_copies : FnScope ["_law_things", "_law_ties", "_law_copies_here", "_law_found", "_law_at", "_law_one", "_law_other"] ["_law_things", "_law_ties", "_law_copies_here"] (defScope (top 73)) := ⟨rfl, rfl, rfl, by decide +kernel, rfl, by decide +kernel, by decide +kernel⟩
def spCopies (K : PySem.W.Frag) (cT : Addr) : Sp := fun vs H Q _ => ∃ (n c : Nat) (T : Addr) (tys : List V) (ts : List (Nat × Nat)), vs = [nV n, .ref T, nV c] ∧ H T = some (.lst tys) ∧ Each (fun y p => Dp K H y (prD p)) tys ts ∧ ts.length ≤ 36 ∧ 1 ≤ n ∧ n ≤ 7 ∧ 1 ≤ c ∧ c ≤ 4 ∧
  (∀ p ∈ ts, p.1 ≠ p.2 ∧ p.1 < n ∧ p.2 < n) ∧ (ts.map norm).Nodup ∧ ∀ x H' us, Same H H' → TownAt K cT H' (.ref x) (n * c) us → us.Perm ((copiesL n ts c).map norm) → Q (.ref x) H'
theorem c__law_copies (e : Ev w K mg cS cQ cT) : C8.Cal P w K mg base 8 "_law_copies" (spCopies K cT) [] := by
  have c_Town := c_Town (P := P) (base := base) e
  refine calD e.d_law_copies (fun _ _ _ _ _ _ us hl => match us, hl with | [_, _, _], _ => rfl) sc__law_copies (fun vs H Q E h => ?_) fun f cdv A outer s H vs Q E hr h => ?_
  · obtain ⟨_, _, _, _, _, rfl, _⟩ := h; rfl
  obtain ⟨n, c, T, tys, ts, rfl, hT, he, hz, hn0, hn1, hc0, hc1, hp, hnd, hQ⟩ := h
  refine ⟨_, (pss_cons (ps_set (i := 3) sc__law_copies.nd rfl (.inl rfl) (pe_lst pa_nil))
    (pss_cons (ps_for PassesOwn.never rfl (pi_range1 rfl e.n_range (pa_cons (pv 2) pa_nil)) (pg_name (i := 4) sc__law_copies.nd rfl (.inr rfl))
    (pss_one (ps_set (i := 3) sc__law_copies.nd rfl (.inl rfl) (pe_op op_cat (pv 3) (pe_lc (own := [("_law_one", 5), ("_law_other", 6)]) (g := (gTup K 2 (gCons (gName 5) (gCons (gName 6) gNil)))) (tt := tYes) rfl sc__law_copies.nd (pi_list (pv 1)) (blkOk_by (N := ["_law_things", "_law_ties", "_law_copies_here", "_law_found", "_law_at", "_law_one", "_law_other"]) (sc := defScope (top 73)) (by decide +kernel)) (fun _ _ _ _ _ => (pg_tup rfl (pgs_cons (pg_name (i := 5) sc__law_copies.nd rfl (.inl rfl)) (pgs_cons (pg_name (i := 6) sc__law_copies.nd rfl (.inl rfl)) pgs_nil)))) (fun _ _ _ _ _ => pts_nil) (fun _ _ _ _ _ => (pe_tup (pa_cons (pe_op op_add (pv 5) (pe_op op_mul (pv 0) (pv 4))) (pa_cons (pe_op op_add (pv 6) (pe_op op_mul (pv 0) (pv 4))) pa_nil)))))))))
    (pss_one (ps_ret (C8.pe_mk c_Town hr (by first | decide | omega) rfl (pa_cons (pe_op op_mul (pv 0) (pv 2)) (pa_cons (pv 3) pa_nil))))))), ?_⟩
  refine ⟨Nat.zero_le _, fun F hF => ?_⟩
  have s1 := new1 (o := .lst []) hF
  refine ⟨_, rfl, (c : Int), rfl, by omega, by omega, ?_⟩
  rw [Int.toNat_natCast]
  refine for_it (walk_rangeN (n := c)) (fun i σ' H' => (∃ L t4 t5 t6, σ' = [some (nV n), some (.ref T), some (nV c), some (.ref L), t4, t5, t6] ∧ ∃ ys, H' L = some (.lst ys) ∧ Each (fun y p => Dp K H' y (prD p)) ys (copiesL n ts i)) ∧ Same H H')
    ⟨⟨F, none, none, none, rfl, [], upd_same, .nil⟩, s1⟩ (fun _ _ _ _ _ => trivial) (fun i y σ' H2 H3 hi p hY => ?_) fun σ' H' p => ?_
  · obtain ⟨rfl, rfl⟩ := hY
    obtain ⟨⟨L, t4, t5, t6, rfl, ys, hL, hys⟩, s2⟩ := p
    have hT3 := s2 _ _ hT
    have hlz : ys.length ≤ 144 := by
      rw [hys.1, copies_len]
      have : ts.length * i ≤ 36 * 4 := Nat.mul_le_mul hz (by omega)
      omega
    refine ⟨_, rfl, _, rfl, T, rfl, ⟨_, .inl (.inl hT3)⟩, fun D hD => ?_⟩
    refine lc_rel (walk_list (xs := tys)) hD (by have := he.1; omega) (fun m y H' => ∃ p, ts[m]? = some p ∧ Dp K H' y (prD (p.1 + n * i, p.2 + n * i))) (fun m y H4 H5 zs h1 h2 ⟨p, hp, d⟩ => ⟨p, hp, dp_only (fun a xs h => sq_but h1 h2 a xs h) _ _ rfl d⟩)
      (fun H' s' => .inl (.inl (s' _ _ hT3))) (fun m x H4 H5 zs Kk hm s3 _ hY hk => ?_) fun H4 zs s3 hD4 hlen hzs => ?_
    · obtain ⟨rfl, hx⟩ := hY
      have hm2 : m < ts.length := by rw [← he.1]; exact hm
      have hpm := List.getElem?_eq_getElem hm2
      have s4 := Same.tr s2 s3
      obtain ⟨a, rfl, ha⟩ := pr_at (dp_same s4 _ _ (he.2 m x _ hx hpm))
      have hb := hp _ (List.mem_of_getElem? hpm)
      refine ⟨a, _, rfl, ha, rfl, _, _, rfl, _, _, rfl, rfl, rfl, ?_⟩
      refine ⟨_, rfl, _, rfl, _, rfl, _, _, rfl, rfl, .inl ⟨by omega, by omega⟩, _, _, rfl, rfl, ?_⟩
      refine ⟨_, rfl, _, rfl, _, rfl, _, _, rfl, rfl, .inl ⟨by omega, by omega⟩, _, _, rfl, rfl, (by show 2 ≤ sizeLine; decide), fun t ht => ?_⟩
      refine hk (.ref t) _ (new1 ht) ⟨_, hpm, pr_new ?_⟩
      rw [upd_same]
      have e1 : ∀ q : Nat, ((q : Int) + (n : Int) * (i : Int)) = ((q + n * i : Nat) : Int) := fun q => by
        rw [Int.natCast_add, Int.natCast_mul]
      show some (HO.tup [V.int ((ts[m].1 : Int) + (n : Int) * (i : Int)), V.int ((ts[m].2 : Int) + (n : Int) * (i : Int))]) = _
      rw [e1, e1]
    · refine ⟨L, D, ys, zs, rfl, rfl, s3 _ _ hL, hD4, small (m := 1000) (by have := he.1; omega), fun N hN => ?_⟩
      have s4 := same2 (o := .lst (ys ++ zs)) s3 hN
      have s5 := new1 (o := .lst (ys ++ zs)) hN
      refine ⟨⟨N, _, _, _, rfl, _, upd_same, .app (hys.mono fun y p d => dp_same s4 _ _ d) ?_⟩, Same.tr s2 s4⟩
      refine ⟨by show zs.length = (shiftP (n * i) ts).length; unfold shiftP; rw [List.length_map, hlen, he.1], fun m y u hy hu => ?_⟩
      obtain ⟨p, hpm, d⟩ := hzs m y hy
      have hu' : (shiftP (n * i) ts)[m]? = some u := hu
      unfold shiftP at hu'
      rw [List.getElem?_map, hpm] at hu'
      cases hu'
      exact dp_same s5 _ _ d
  · obtain ⟨⟨L, t4, t5, t6, rfl, ys, hL, hys⟩, s2⟩ := p
    have e1 : (n : Int) * (c : Int) = ((n * c : Nat) : Int) := (Int.natCast_mul n c).symm
    refine ⟨_, rfl, _, rfl, _, _, rfl, rfl, .inl ⟨by omega, by omega⟩, ?_⟩
    dsimp only
    rw [e1]
    refine ⟨_, rfl, fun x dx hx hdx hne => ?_⟩
    have s3 : Same H' (upd (upd H' dx (.own x)) x (.ins cT dx [])) := same2 (new1 hdx) (by rw [upd_ne (Ne.symm hne)]; exact hx)
    have hlz : (copiesL n ts c).length ≤ 144 := by
      rw [copies_len]
      have : ts.length * c ≤ 36 * 4 := Nat.mul_le_mul hz hc1
      omega
    have hnc1 : 1 ≤ n * c := Nat.mul_le_mul hn0 hc0
    have hnc2 : n * c ≤ 7 * 4 := Nat.mul_le_mul hn1 hc1
    have hxn : ∀ b o, H b = some o → b ≠ x := fun b o hb => ne_of_none (s2 b o hb) hx
    refine ⟨x, dx, L, ys, n * c, copiesL n ts c, rfl, upd_same, s3 _ _ hL, hys.mono fun y p d => dp_same s3 _ _ d, by omega, hnc1, by omega, copies_lt hp c, copies_nodup hp hnd c, fun H9 us sb hT9 hperm => ⟨rfl, ?_⟩⟩
    exact hQ x H9 us (fun b o hb => sb b o (hxn b o hb) (s3 _ _ (s2 _ _ hb))) hT9 hperm
end
end K61

end

section
set_option linter.all false
set_option maxRecDepth 100000
set_option maxHeartbeats 4000000
/-! K61, walk 21: drawn questions. -/
namespace K61
open PySem PySem.Spec PyProof.Rows L2
def sV (u : Nm) : V := .str (nmS u)
theorem sV_inj {a b : Nm} (h : sV a = sV b) : a = b := nmS_inj (V.str.inj h)
section
variable {J : It} {G : Hp → Prop} {g : TG} {tt : TT} {te : TE} {vs : List Nat} {σ : L2.St} {H1 : Hp} {D : Addr} {Qd : Hp → Prop}
/-- the names that are kept -/
theorem lc_names {l : List Nm} (p : Nm → Bool) (w : Walk J l.length G (YAt (l.map sV))) (hD : H1 D = none) (hn : l.length ≤ 9000) (hG : ∀ H, Same H1 H → G H)
    (hs : ∀ (i : Nat) u H (ys : List V) (Kn : Hp → Prop) (Kk : VK), l[i]? = some u → Same H1 H → H D = some (.lst ys) → (p u = true → Kk (sV u) H) → (p u = false → Kn H) →
      g (sV u) (wipe σ vs) H fun σ2 H2 => wipe σ2 vs = wipe σ vs ∧ tt σ2 H2 fun b H3 => if b = true then te σ2 H3 Kk else Kn H3)
    (hd : ∀ H : Hp, Same H1 H → H D = some (.lst ((l.filter p).map sV)) → Qd H) : LcAsk J g tt te vs σ H1 D Qd := by
  refine lc_it w (fun i H => Same H1 H ∧ H D = some (.lst (((l.take i).filter p).map sV))) ⟨same_new hD, upd_same⟩ (fun i H _ q => hG H q.1) (fun i x H H' hi q y => ?_) fun H q => hd H q.1 (by rw [q.2, List.take_length])
  obtain ⟨sm, hy⟩ := q
  obtain ⟨rfl, hx⟩ := y
  obtain ⟨u, hu, rfl⟩ := map_at hx
  have et : l.take (i + 1) = l.take i ++ [u] := by rw [List.take_add_one, hu] <;> rfl
  refine hs i u H' _ _ _ hu sm hy (fun hk => ⟨_, hy, ?_, SameBut.same hD sm .upd, ?_⟩) fun hk => ⟨sm, ?_⟩
  · rw [List.length_map]
    have h := List.length_filter_le p (l.take i)
    have h2 := List.length_take_le i l
    exact smallLt (m := 9000) (by omega)
  · rw [upd_same, et, List.filter_append, List.map_append, List.filter_cons, hk]
    rfl
  · rw [hy, et, List.filter_append, List.filter_cons, hk]
    simp
end
section
variable {P : Program} {w : World} {K : PySem.W.Frag} {mg : Str → Option Value} {base : Heap} {cS cQ cT : Addr}
theorem rep_mem {n : Nat} {xs : List V} {v : V} (h : v ∈ (List.replicate n xs).flatten) : v ∈ xs := by
  obtain ⟨l, h1, h2⟩ := List.mem_flatten.mp h
  rw [(List.mem_replicate.mp h1).2] at h2
  exact h2
theorem rep_len (n : Nat) (xs : List V) : (List.replicate n xs).flatten.length = n * xs.length := by
  induction n with
  | zero => simp
  | succ n ih => rw [List.replicate_succ, List.flatten_cons, List.length_append, ih, Nat.succ_mul]; omega
theorem sc__law_atom : FnScope ["_law_jar_here", "_law_bound", "_law_one", "_law_others", "_law_each"] ["_law_jar_here", "_law_bound"] (defScope (top 69)) := ⟨rfl, rfl, rfl, by decide +kernel, rfl, by decide +kernel, by decide +kernel⟩
def spAtom (K : PySem.W.Frag) : Sp := fun vs H Q _ => ∃ (j L C : Addr) (cs : List Int) (m : Nat) (bd : List Nm), vs = [.ref j, .ref L] ∧ JarAt H j C cs m ∧ m ≤ 3900 ∧ H L = some (.lst (bd.map sV)) ∧ L ≠ j ∧ 1 ≤ bd.length ∧ bd.length ≤ 3 ∧
  ∀ v t a b H', SameBut j H H' → JarAt H' j C cs (m + 3) → QAt K H' v (.atom t a b) → a ∈ bd → b ∈ bd → Q v H'
theorem c__law_atom (e : Ev w K mg cS cQ cT) : C8.Cal P w K mg base 3 "_law_atom" (spAtom K) [] := by
  have c__law_pick := c__law_pick (P := P) (base := base) e
  refine calD e.d_law_atom (fun _ _ _ _ _ _ us hl => match us, hl with | [_, _], _ => rfl) sc__law_atom (fun vs H Q E h => ?_) fun f cdv A outer s H vs Q E hr h => ?_
  · obtain ⟨_, _, _, _, _, _, rfl, _⟩ := h; rfl
  obtain ⟨j, L, C, cs, m, bd, rfl, hj, hm, hL, hLj, hb1, hb2, hQ⟩ := h
  refine ⟨_, (pss_cons (ps_set (i := 2) sc__law_atom.nd rfl (.inr rfl) (C8.pe_c c__law_pick hr (by first | decide | omega) rfl (pa_cons (pv 0) (pa_cons (pv 1) pa_nil))))
    (pss_cons (ps_setLc (i := 3) (own := [("_law_each", 4)]) rfl sc__law_atom.nd rfl rfl (sw_true rfl rfl rfl (by decide +kernel)) (pi_list (pv 1)) (blkOk_by (N := ["_law_jar_here", "_law_bound", "_law_one", "_law_others", "_law_each"]) (sc := defScope (top 69)) (by decide +kernel)) (fun _ _ _ _ _ => (pg_name (i := 4) sc__law_atom.nd rfl (.inl rfl))) (fun _ _ _ _ _ => (pts_one (pt_cmpR op_ne (pv 4) (pv 2) (nomark _)))) (fun _ _ _ _ _ => (pv 4)))
    (pss_one (ps_ret (pe_tup (pa_cons (C8.pe_c c__law_pick hr (by first | decide | omega) rfl (pa_cons (pv 0) (pa_cons (pe_lst (pa_cons pe_str (pa_cons pe_str (pa_cons pe_str pa_nil)))) pa_nil))) (pa_cons (pv 2) (pa_cons (C8.pe_c c__law_pick hr (by first | decide | omega) rfl (pa_cons (pv 0) (pa_cons (pe_op op_cat (pe_op op_rep (pv 3) pe_int) (pv 1)) pa_nil))) pa_nil)))))))), ?_⟩
  refine ⟨_, rfl, _, rfl, j, L, C, cs, m, _, rfl, hj, by omega, hL, hLj, by rw [List.length_map]; omega, by rw [List.length_map]; omega, fun v1 H1 b1 hj1 hv1 => ?_⟩
  obtain ⟨a, ha, rfl⟩ := List.mem_map.mp hv1
  have hL1 := b1 L _ hLj hL
  refine ⟨_, rfl, L, rfl, ⟨_, .inl (.inl hL1)⟩, fun D hD => ?_⟩
  refine lc_names (fun u => !decide (sV u = sV a)) (walk_listM bd sV) hD (by omega) (fun H' s' => .inl (.inl (s' _ _ hL1))) (fun i u H2 ys Kn Kk hu s2 _ hk hn => ?_) fun H2 s2 hD2 => ?_
  · refine ⟨rfl, _, rfl, _, rfl, rfl, _, rfl, ?_⟩
    refine ite2 (fun c => ⟨_, rfl, hk c⟩) fun c => hn (Bool.eq_false_iff.mpr c)
  have hDj : D ≠ j := fun z => by
    obtain ⟨_, _, q, _⟩ := hj1
    rw [z, q] at hD
    cases hD
  refine ⟨_, rfl, (by show 3 ≤ sizeLine; decide), fun p hp => ?_⟩
  have hj2 := hj1.same (m' := m + 1) s2
  have hpj : p ≠ j := fun z => by
    obtain ⟨_, _, q, _⟩ := hj2
    rw [z, q] at hp
    cases hp
  have s3 := new1 (o := .lst [.str "tied", .str "same", .str "tied"]) hp
  refine ⟨j, p, C, cs, m + 1, _, rfl, hj2.same s3, by omega, upd_same, hpj, (by decide), (by decide), fun v3 H3 b3 hj3 hv3 => ?_⟩
  obtain ⟨t, rfl⟩ : ∃ t, v3 = .str (atS t) := by
    have : v3 = .str "tied" ∨ v3 = .str "same" ∨ v3 = .str "tied" := by simpa using hv3
    rcases this with rfl | rfl | rfl
    · exact ⟨true, rfl⟩
    · exact ⟨false, rfl⟩
    · exact ⟨true, rfl⟩
  refine ⟨_, rfl, _, rfl, _, rfl, ?_⟩
  have hD3 := b3 D _ hDj (s3 _ _ hD2)
  have hL3 := b3 L _ hLj (s3 _ _ (s2 _ _ hL1))
  have hfl := List.length_filter_le (fun u => !decide (sV u = sV a)) bd
  refine ⟨D, 4, _, rfl, rfl, hD3, by decide, by decide, small (m := 100) (by rw [List.length_map]; show _ * 4 ≤ 100; omega), fun p4 hp4 => ?_⟩
  have s4 := new1 (o := .lst (List.replicate (4 : Int).toNat ((bd.filter fun u => !decide (sV u = sV a)).map sV)).flatten) hp4
  refine ⟨_, rfl, p4, L, _, _, rfl, rfl, upd_same, s4 _ _ hL3, small (m := 100) (by rw [rep_len, List.length_map, List.length_map]; show 4 * _ + _ ≤ 100; omega), fun p5 hp5 => ?_⟩
  have s5 := same2 (o := .lst ((List.replicate (4 : Int).toNat ((bd.filter fun u => !decide (sV u = sV a)).map sV)).flatten ++ bd.map sV)) s4 hp5
  have hj5 := hj3.same (m' := m + 2) s5
  have hp5j : p5 ≠ j := fun z => by
    obtain ⟨_, _, q, _⟩ := hj3.same (m' := m + 2) s4
    rw [z, q] at hp5
    cases hp5
  refine ⟨j, p5, C, cs, m + 2, _, rfl, hj5, by omega, upd_same, hp5j, by rw [List.length_append, List.length_map]; omega, by rw [List.length_append, rep_len, List.length_map, List.length_map]; show 4 * _ + _ ≤ 10000; omega, fun v6 H6 b6 hj6 hv6 => ?_⟩
  obtain ⟨b, hb, rfl⟩ : ∃ b, b ∈ bd ∧ v6 = sV b := by
    rcases List.mem_append.mp hv6 with h | h
    · obtain ⟨b, hb, rfl⟩ := List.mem_map.mp (rep_mem h)
      exact ⟨b, (List.mem_filter.mp hb).1, rfl⟩
    · obtain ⟨b, hb, rfl⟩ := List.mem_map.mp h
      exact ⟨b, hb, rfl⟩
  refine ⟨(by show 3 ≤ sizeLine; decide), fun q hq => ?_⟩
  have s7 := new1 (o := .tup [.str (atS t), .str (nmS a), .str (nmS b)]) hq
  exact hQ _ t a b _ (b1.trans ((Same.but (Same.tr s2 s3)).trans (b3.trans ((Same.but s5).trans (b6.trans (Same.but s7)))))) (hj6.same s7) ⟨q, rfl, .inl (.inl upd_same)⟩ ha hb
theorem calNoneK {k : Nat} {x : Str} {st : Stmt} {ps : List Str} {sp : Sp} (D : DefAt K mg x st []) (hb : BindOk x x st ps) (no : ∀ vs H Q E, ¬ sp vs H Q E) : C8.Cal P w K mg base k x sp [] := by
  obtain ⟨f, fd, F, m⟩ := D.ex
  exact ⟨f, fd, ps, [], ⟨fun vs H Q E h => absurd h (no vs H Q E), fun A outer s H args us vs Q E _ _ _ _ h => absurd h (no vs H Q E)⟩, m, F.kp, F.bindsN hb, .nil⟩
theorem dpa_strs {H : Hp} : ∀ ns : List Str, DpAll K H (ns.map V.str) (ns.map PyData.str)
  | [] => .nil
  | n :: ns => .cons (.str n) (dpa_strs ns)
theorem strs_shaped {ns : List Str} (h : ∀ z ∈ ns, PyData.canLay0 (.str z) = true) : SeqAt.shaped (.list (ns.map PyData.str)) = true := by
  have h0 : PyData.canLayAll0 (ns.map PyData.str) = true ∧ PyData.depthAll (ns.map PyData.str) ≤ 1 := by
    induction ns with
    | nil => exact ⟨rfl, by simp [PyData.depthAll]⟩
    | cons n r ih =>
      have i2 := ih fun z hz => h z (List.mem_cons_of_mem _ hz)
      refine ⟨?_, ?_⟩
      · simp only [List.map_cons, PyData.canLayAll0, h n (List.mem_cons_self ..), i2.1, Bool.and_true]
      · have := i2.2
        simp only [List.map_cons, PyData.depthAll, PyData.depth]
        omega
  unfold SeqAt.shaped
  rw [Bool.and_eq_true_iff]
  refine ⟨h0.1, ?_⟩
  have := h0.2
  refine decide_eq_true ?_
  simp only [PyData.depth]
  omega
/-- a way that a question may go -/
def Way (bd : List Nm) (looks room least : Nat) (z : Str) : Prop := ((z = "some" ∨ z = "all") ∧ 1 ≤ looks ∧ 5 ≤ room) ∨ (z = "atom" ∧ bd ≠ []) ∨ (z = "not" ∧ least < room) ∨ ((z = "and" ∨ z = "or") ∧ 2 * least < room)
theorem Way.lay {bd : List Nm} {looks room least : Nat} {z : Str} (h : Way bd looks room least z) : PyData.canLay0 (.str z) = true := by
  rcases h with ⟨h | h, _⟩ | ⟨h, _⟩ | ⟨h, _⟩ | ⟨h | h, _⟩ <;> subst h <;> decide +kernel
theorem nm_len {bd : List Nm} (h : bd.Nodup) : bd.length ≤ 3 := by
  have hs : bd.length ≤ [Nm.x, Nm.y, Nm.z].length := by
    refine List.Nodup.length_le_of_subset h fun a _ => ?_
    cases a <;> simp
  exact hs
def WaysAt (H0 H : Hp) (W j : Addr) (bd : List Nm) (looks room least m : Nat) (ws : List Str) : Prop := Same H0 H ∧ W ≠ j ∧ H W = some (.lst (ws.map V.str)) ∧ ws.length ≤ m ∧ ∀ z ∈ ws, Way bd looks room least z
theorem WaysAt.cat {H0 H H' : Hp} {W W' j : Addr} {bd : List Nm} {looks room least m m' : Nat} {ws zs : List Str} (h : WaysAt H0 H W j bd looks room least m ws) (s : Same H H') (hj : W' ≠ j) (hz : zs.length + m ≤ m') (hw : ∀ z ∈ zs, Way bd looks room least z)
    (h' : H' W' = some (.lst (ws.map V.str ++ zs.map V.str))) : WaysAt H0 H' W' j bd looks room least m' (ws ++ zs) := by
  obtain ⟨h1, h2, h3, h4, h5⟩ := h
  refine ⟨Same.tr h1 s, hj, by rw [List.map_append]; exact h', by rw [List.length_append]; omega, fun z hz => ?_⟩
  rcases List.mem_append.mp hz with h | h
  · exact h5 z h
  · exact hw z h
theorem WaysAt.more {H0 H H' : Hp} {W j : Addr} {bd : List Nm} {looks room least m m' : Nat} {ws : List Str} (h : WaysAt H0 H W j bd looks room least m ws) (s : Same H H') (hz : m ≤ m') : WaysAt H0 H' W j bd looks room least m' ws :=
  let ⟨h1, h2, h3, h4, h5⟩ := h
  ⟨Same.tr h1 s, h2, s _ _ h3, Nat.le_trans h4 hz, h5⟩
theorem rep_str (n : Nat) (zs : List Str) : (List.replicate n (zs.map V.str)).flatten = ((List.replicate n zs).flatten).map V.str := by
  induction n with
  | zero => rfl
  | succ n ih => rw [List.replicate_succ, List.replicate_succ, List.flatten_cons, List.flatten_cons, List.map_append, ih]
theorem rep_strm {n : Nat} {zs : List Str} {z : Str} (h : z ∈ (List.replicate n zs).flatten) : z ∈ zs := by
  obtain ⟨l, h1, h2⟩ := List.mem_flatten.mp h
  rw [(List.mem_replicate.mp h1).2] at h2
  exact h2
theorem rep_strl (n : Nat) (zs : List Str) : (List.replicate n zs).flatten.length = n * zs.length := by
  induction n with
  | zero => simp
  | succ n ih => rw [List.replicate_succ, List.flatten_cons, List.length_append, ih, Nat.succ_mul]; omega
theorem sc__law_question : FnScope ["_law_jar_here", "_law_bound", "_law_looks", "_law_room", "_law_least", "_law_ways", "_law_way", "_law_fresh", "_law_name", "_law_held", "_law_first", "_law_each"] ["_law_jar_here", "_law_bound", "_law_looks", "_law_room"] (defScope (top 70)) := ⟨rfl, rfl, rfl, by decide +kernel, rfl, by decide +kernel, by decide +kernel⟩
def spQuest (K : PySem.W.Frag) (k : Nat) : Sp := fun vs H Q _ => ∃ (j L C : Addr) (cs : List Int) (m : Nat) (bd : List Nm) (looks room : Nat), vs = [.ref j, .ref L, nV looks, nV room] ∧ JarAt H j C cs m ∧ m + 2 * room ≤ 3800 ∧ H L = some (.lst (bd.map sV)) ∧ L ≠ j ∧ bd.Nodup ∧
  (bd = [] → 1 ≤ looks ∧ 5 ≤ room) ∧ (bd ≠ [] → 3 ≤ room) ∧ looks ≤ 3 ∧ room ≤ 40 ∧ room + 1 ≤ k ∧
  ∀ v q H', SameBut j H H' → JarAt H' j C cs (m + 2 * q.size) → QAt K H' v q → q.size ≤ room → q.looks ≤ looks → (∀ a ∈ q.free, a ∈ bd) → Q v H'
theorem b__law_question : BindOk "_law_question" "_law_question" (top 70) ["_law_jar_here", "_law_bound", "_law_looks", "_law_room"] := fun _ _ _ _ _ _ us hl => match us, hl with | [_, _, _, _], _ => rfl
theorem s__law_question {k : Nat} (e : Ev w K mg cS cQ cT) (c__law_question : C8.Cal P w K mg base (k + 50) "_law_question" (spQuest K k) []) : C8.Cal P w K mg base (k + 50 + 1) "_law_question" (spQuest K (k + 1)) [] := by
  have c__law_draw := c__law_draw (P := P) (base := base) e
  have c__law_pick := c__law_pick (P := P) (base := base) e
  have c__law_atom := c__law_atom (P := P) (base := base) e
  have c__law_size := c__law_size (P := P) (base := base) e 45
  refine calD e.d_law_question b__law_question sc__law_question (fun vs H Q E h => ?_) fun f cdv A outer s H vs Q E hr h => ?_
  · obtain ⟨_, _, _, _, _, _, _, _, rfl, _⟩ := h; rfl
  obtain ⟨j, L, C, cs, m, bd, looks, room, rfl, hj, hm, hL, hLj, hnd, hb0, hb1, hlk, hrm, hdk, hQ⟩ := h
  have hb3 := nm_len hnd
  refine ⟨_, (C8.pss_cut (ps_set (i := 4) sc__law_question.nd rfl (.inl rfl) (pe_ifExp (pt_cmpR (op_neD hr.units) (pv 1) (pe_lst pa_nil) (nomark _)) pe_int pe_int))
    (C8.pss_cut (ps_set (i := 5) sc__law_question.nd rfl (.inl rfl) (pe_ifExp (PW.pt (pw_and (pt_cmpR op_gt (pv 2) pe_int (nomark _)) (pw_and1 (pt_cmpR op_ge (pv 3) pe_int (nomark _))))) (pe_op op_rep (pe_lst (pa_cons pe_str (pa_cons pe_str pa_nil))) (pe_op op_sub pe_int (pe_callB call_len_seq rfl e.n_len (by decide +kernel) (pa_cons (pv 1) pa_nil)))) (pe_lst pa_nil)))
    (C8.pss_cut (ps_if (PW.pt (pw_or (pt_cmpR (op_eqD hr.units) (pv 5) (pe_lst pa_nil) (nomark _)) (pw_or1 (pt_cmpR op_gt (pe_callB call_len_seq rfl e.n_len (by decide +kernel) (pa_cons (pv 1) pa_nil)) pe_int (nomark _))))) (pss_one (ps_set (i := 5) sc__law_question.nd rfl (.inl rfl) (pe_op op_cat (pv 5) (pe_lst (pa_cons pe_str pa_nil))))) pss_nil)
    (C8.pss_cut (ps_if (pt_cmpR op_gt (pv 3) (pv 4) (nomark _)) (pss_one (ps_set (i := 5) sc__law_question.nd rfl (.inl rfl) (pe_op op_cat (pv 5) (pe_lst (pa_cons pe_str pa_nil))))) pss_nil)
    (C8.pss_cut (ps_if (pt_cmpR op_gt (pv 3) (pe_op op_mul pe_int (pv 4)) (nomark _)) (pss_one (ps_set (i := 5) sc__law_question.nd rfl (.inl rfl) (pe_op op_cat (pv 5) (pe_op op_rep (pe_lst (pa_cons pe_str (pa_cons pe_str pa_nil))) (pe_op op_add pe_int (pe_callTy call_int1 rfl e.n_int (by decide +kernel) (pa_cons (pe_cmpR op_eq (pv 2) pe_int (nomark _)) pa_nil))))))) pss_nil)
    (pss_cons (ps_set (i := 6) sc__law_question.nd rfl (.inl rfl) (C8.pe_c c__law_pick hr (by first | decide | omega) rfl (pa_cons (pv 0) (pa_cons (pv 5) pa_nil))))
    (pss_cons (ps_if (pt_cmpR op_eq (pv 6) pe_str (nomark _)) (pss_one (ps_ret (C8.pe_c c__law_atom hr (by first | decide | omega) rfl (pa_cons (pv 0) (pa_cons (pv 1) pa_nil))))) pss_nil)
    (pss_cons (ps_if (pt_cmpR op_in_seq (pv 6) (pe_tup (pa_cons pe_str (pa_cons pe_str pa_nil))) rfl) (pss_cons (ps_setLc (i := 7) (own := [("_law_each", 11)]) rfl sc__law_question.nd rfl rfl (sw_true rfl rfl rfl (by decide +kernel)) (pi_list (pe_lst (pa_cons pe_str (pa_cons pe_str (pa_cons pe_str pa_nil))))) (blkOk_by (N := ["_law_jar_here", "_law_bound", "_law_looks", "_law_room", "_law_least", "_law_ways", "_law_way", "_law_fresh", "_law_name", "_law_held", "_law_first", "_law_each"]) (sc := defScope (top 70)) (by decide +kernel)) (fun _ _ _ _ _ => (pg_name (i := 11) sc__law_question.nd rfl (.inl rfl))) (fun _ _ _ _ _ => (pts_one (pt_cmpR (opNotInK (K := K) rfl) (pv 11) (pv 1) rfl))) (fun _ _ _ _ _ => (pv 11)))
      (pss_cons (ps_set (i := 8) sc__law_question.nd rfl (.inl rfl) (C8.pe_c c__law_pick hr (by first | decide | omega) rfl (pa_cons (pv 0) (pa_cons (pe_op op_cat (pe_op op_rep (pv 7) pe_int) (pe_lst (pa_cons pe_str (pa_cons pe_str (pa_cons pe_str pa_nil))))) pa_nil))))
      (pss_cons (ps_set (i := 9) sc__law_question.nd rfl (.inl rfl) (pe_op op_cat (pv 1) (pe_lc (own := [("_law_each", 11)]) rfl sc__law_question.nd (pi_list (pe_lst (pa_cons (pv 8) pa_nil))) (blkOk_by (N := ["_law_jar_here", "_law_bound", "_law_looks", "_law_room", "_law_least", "_law_ways", "_law_way", "_law_fresh", "_law_name", "_law_held", "_law_first", "_law_each"]) (sc := defScope (top 70)) (by decide +kernel)) (fun _ _ _ _ _ => (pg_name (i := 11) sc__law_question.nd rfl (.inl rfl))) (fun _ _ _ _ _ => (pts_one (pt_cmpR (opNotInK (K := K) rfl) (pv 11) (pv 1) rfl))) (fun _ _ _ _ _ => (pv 11)))))
      (pss_one (ps_ret (pe_tup (pa_cons (pv 6) (pa_cons (pv 8) (pa_cons (C8.pe_c c__law_question hr (by first | decide | omega) rfl (pa_cons (pv 0) (pa_cons (pv 9) (pa_cons (pe_op op_sub (pv 2) pe_int) (pa_cons (pe_op op_sub (pv 3) pe_int) pa_nil))))) pa_nil))))))))) pss_nil)
    (pss_cons (ps_if (pt_cmpR op_eq (pv 6) pe_str (nomark _)) (pss_one (ps_ret (pe_tup (pa_cons pe_str (pa_cons (C8.pe_c c__law_question hr (by first | decide | omega) rfl (pa_cons (pv 0) (pa_cons (pv 1) (pa_cons (pv 2) (pa_cons (pe_op op_sub (pv 3) pe_int) pa_nil))))) pa_nil))))) pss_nil)
    (pss_cons (ps_set (i := 10) sc__law_question.nd rfl (.inl rfl) (C8.pe_c c__law_question hr (by first | decide | omega) rfl (pa_cons (pv 0) (pa_cons (pv 1) (pa_cons (pv 2) (pa_cons (pe_op op_add (pv 4) (C8.pe_c c__law_draw hr (by first | decide | omega) rfl (pa_cons (pv 0) (pa_cons (pe_op op_sub (pv 3) (pe_op op_mul pe_int (pv 4))) pa_nil)))) pa_nil))))))
    (pss_one (ps_ret (pe_tup (pa_cons (pv 6) (pa_cons (pv 10) (pa_cons (C8.pe_c c__law_question hr (by first | decide | omega) rfl (pa_cons (pv 0) (pa_cons (pv 1) (pa_cons (pv 2) (pa_cons (pe_op op_sub (pe_op op_sub (pv 3) pe_int) (C8.pe_c c__law_size hr (by first | decide | omega) rfl (pa_cons (pv 10) pa_nil))) pa_nil))))) pa_nil)))))))))))))))), ?_⟩
  have jne : ∀ {H1 : Hp} {p : Addr}, Same H H1 → H1 p = none → p ≠ j := fun {H1 p} s hp z => by
    obtain ⟨_, _, q, _⟩ := hj
    rw [z, s _ _ q] at hp
    cases hp
  obtain ⟨least, hleast, hl5, hl3⟩ : ∃ least : Nat, (least = 3 ∨ least = 5) ∧ (bd = [] → least = 5) ∧ (bd ≠ [] → least = 3) := by
    by_cases c : bd = []
    · exact ⟨5, .inr rfl, fun _ => rfl, fun h => absurd c h⟩
    · exact ⟨3, .inl rfl, fun h => absurd h c, fun _ => rfl⟩
  have hlr : least ≤ room := by
    by_cases c : bd = []
    · have := hb0 c; have := hl5 c; omega
    · have := hb1 c; have := hl3 c; omega
  refine ⟨fun σ' H' => Same H H' ∧ σ' = [some (.ref j), some (.ref L), some (nV looks), some (nV room), some (nV least), none, none, none, none, none, none, none], ?_, ?_⟩
  · refine ⟨_, rfl, Nat.zero_le _, fun p hp => ?_⟩
    have s1 := new1 (o := .lst []) hp
    have hbl : bd.map sV = (bd.map nmS).map V.str := by rw [List.map_map] <;> rfl
    refine ⟨.list ((bd.map nmS).map PyData.str), .list [], .lst (.inl (.inl (s1 _ _ hL))) (by rw [hbl]; exact dpa_strs _), .lst (.inl (.inl upd_same)) .nil, strs_shaped (fun z hz => ?_), by decide, _, rfl, ?_⟩
    · obtain ⟨a, _, rfl⟩ := List.mem_map.mp hz
      cases a <;> decide +kernel
    · cases bd with
      | nil =>
        have := hl5 rfl
        subst this
        exact ⟨s1, rfl⟩
      | cons a r =>
        have := hl3 (by simp)
        subst this
        exact ⟨s1, rfl⟩
  rintro σ' H1 ⟨s1, rfl⟩
  refine ⟨fun σ' H' => ∃ W ws, σ' = [some (.ref j), some (.ref L), some (nV looks), some (nV room), some (nV least), some (.ref W), none, none, none, none, none, none] ∧ WaysAt H H' W j bd looks room least 8 ws ∧ (bd = [] → ws ≠ []), ?_, ?_⟩
  · refine ⟨_, rfl, _, _, rfl, rfl, _, rfl, ?_⟩
    refine (fun (tail : bd ≠ [] → _) => ite2 (fun c1 => ⟨_, rfl, _, _, rfl, rfl, _, rfl, ite2 (fun c2 => ?yes) (fun c2 => tail (fun z => c2 (decide_eq_true (by have := (hb0 z).2; omega))))⟩) (fun c1 => ite_no rfl (tail (fun z => c1 (decide_eq_true (by have := (hb0 z).1; omega)))))) ?tail
    case yes =>
      have d1 : 1 ≤ looks := by have := of_decide_eq_true c1; omega
      have d2 : 5 ≤ room := by have := of_decide_eq_true c2; omega
      refine ⟨(by show 2 ≤ sizeLine; decide), fun p hp => ?_⟩
      have s2 := new1 (o := .lst [.str "some", .str "all"]) hp
      refine ⟨_, rfl, L, _, rfl, .inl (.inl (.inl (s2 _ _ (s1 _ _ hL)))), _, _, rfl, rfl, ?_⟩
      refine ⟨p, _, _, rfl, rfl, upd_same, by rw [List.length_map]; omega, by rw [List.length_map]; omega, small (m := 100) (by rw [List.length_map]; show 2 * _ ≤ 100; omega), fun p2 hp2 => ?_⟩
      rw [List.length_map]
      have e1 : (List.replicate ((4 : Int) - (bd.length : Int)).toNat [V.str "some", V.str "all"]).flatten = ((List.replicate ((4 : Int) - (bd.length : Int)).toNat [("some" : Str), ("all" : Str)]).flatten).map V.str := rep_str _ [("some" : Str), ("all" : Str)]
      rw [e1]
      refine ⟨p2, _, rfl, ⟨Same.tr s1 (same2 s2 hp2), jne (Same.tr s1 s2) hp2, upd_same, by rw [rep_strl]; show _ * 2 ≤ 8; omega, fun z hz => ?_⟩, fun _ z => ?_⟩
      · have := rep_strm hz
        simp only [List.mem_cons, List.not_mem_nil, or_false] at this
        exact .inl ⟨this, d1, d2⟩
      · have := congrArg List.length z
        rw [rep_strl] at this
        have : ((4 : Int) - (bd.length : Int)).toNat * 2 = 0 := this
        omega
    case tail =>
      intro hbd
      refine ⟨Nat.zero_le _, fun p hp => ?_⟩
      exact ⟨p, [], rfl, ⟨same2 s1 hp, jne s1 hp, upd_same, Nat.zero_le _, fun z hz => by cases hz⟩, fun z => absurd z hbd⟩
  rintro σ' H2 ⟨W2, ws2, rfl, hW2, hn2⟩
  refine ⟨fun σ' H' => ∃ W ws, σ' = [some (.ref j), some (.ref L), some (nV looks), some (nV room), some (nV least), some (.ref W), none, none, none, none, none, none] ∧ WaysAt H H' W j bd looks room least 9 ws ∧ ws ≠ [], ?_, ?_⟩
  · have hW2' := hW2
    obtain ⟨s2, hWj2, hWl2, hz2, hway2⟩ := hW2'
    refine ⟨_, rfl, Nat.zero_le _, fun p hp => ?_⟩
    have s3 := new1 (o := .lst []) hp
    refine ⟨.list (ws2.map PyData.str), .list [], .lst (.inl (.inl (s3 _ _ hWl2))) (dpa_strs _), .lst (.inl (.inl upd_same)) .nil, strs_shaped (fun z hz => (hway2 z hz).lay), by decide, _, rfl, ?_⟩
    refine (fun (add : bd ≠ [] → _) => ite2 (fun c1 => ite_yes rfl (add fun z => ?non)) fun c1 => ⟨_, rfl, L, _, rfl, .inl (.inl (.inl (s3 _ _ (s2 _ _ hL)))), _, _, rfl, rfl, _, rfl, ite2 (fun c2 => add fun z => ?non2) fun c2 => ?no⟩) ?add
    case non =>
      refine hn2 z ?_
      cases ws2 with
      | nil => rfl
      | cons a r => exact absurd c1 (by simp [PyData.eqv, PyData.eqvAll])
    case non2 =>
      subst z
      exact absurd c2 (by decide)
    case no =>
      refine ⟨W2, ws2, rfl, hW2.more s3 (by omega), fun z => c1 ?_⟩
      subst z
      rfl
    case add =>
      intro hbd
      refine ⟨_, rfl, (by show 1 ≤ sizeLine; decide), fun p3 hp3 => ?_⟩
      have s4 := same2 (o := .lst [.str "atom"]) s3 hp3
      refine ⟨W2, p3, _, _, rfl, rfl, s4 _ _ hWl2, upd_same, small (m := 100) (by rw [List.length_map]; show _ + 1 ≤ 100; omega), fun p4 hp4 => ?_⟩
      refine ⟨p4, ws2 ++ [("atom" : Str)], rfl, hW2.cat (same2 s4 hp4) (jne (Same.tr s2 s4) hp4) (by simp) (fun z hz => ?_) upd_same, by simp⟩
      rw [List.mem_singleton] at hz
      exact .inr (.inl ⟨hz, hbd⟩)
  rintro σ' H3 ⟨W3, ws3, rfl, hW3, hn3⟩
  refine ⟨fun σ' H' => ∃ W ws, σ' = [some (.ref j), some (.ref L), some (nV looks), some (nV room), some (nV least), some (.ref W), none, none, none, none, none, none] ∧ WaysAt H H' W j bd looks room least 10 ws ∧ ws ≠ [], ?_, ?_⟩
  · have hW3' := hW3
    obtain ⟨s3, hWj3, hWl3, hz3, hway3⟩ := hW3'
    refine ⟨_, rfl, _, rfl, _, _, rfl, rfl, _, rfl, ite2 (fun c1 => ?_) fun c1 => ?_⟩
    · have d1 : least < room := by have := of_decide_eq_true c1; omega
      refine ⟨_, rfl, (by show 1 ≤ sizeLine; decide), fun p3 hp3 => ?_⟩
      have s4 := new1 (o := .lst [.str "not"]) hp3
      refine ⟨W3, p3, _, _, rfl, rfl, s4 _ _ hWl3, upd_same, small (m := 100) (by rw [List.length_map]; show _ + 1 ≤ 100; omega), fun p4 hp4 => ?_⟩
      refine ⟨p4, ws3 ++ [("not" : Str)], rfl, hW3.cat (same2 s4 hp4) (jne (Same.tr s3 s4) hp4) (by simp) (fun z hz => ?_) upd_same, by simp⟩
      rw [List.mem_singleton] at hz
      exact .inr (.inr (.inl ⟨hz, d1⟩))
    · exact ⟨W3, ws3, rfl, hW3.more (Same.refl _) (by omega), hn3⟩
  rintro σ' H4 ⟨W4, ws4, rfl, hW4, hn4⟩
  refine ⟨fun σ' H' => ∃ W ws, σ' = [some (.ref j), some (.ref L), some (nV looks), some (nV room), some (nV least), some (.ref W), none, none, none, none, none, none] ∧ WaysAt H H' W j bd looks room least 14 ws ∧ ws ≠ [], ?_, ?_⟩
  · have hW4' := hW4
    obtain ⟨s4, hWj4, hWl4, hz4, hway4⟩ := hW4'
    refine ⟨_, rfl, _, rfl, _, _, rfl, rfl, .inl ⟨by decide, by decide⟩, _, _, rfl, rfl, _, rfl, ite2 (fun c1 => ?_) fun c1 => ?_⟩
    · have d1 : 2 * least < room := by have := of_decide_eq_true c1; omega
      refine ⟨_, rfl, (by show 2 ≤ sizeLine; decide), fun p3 hp3 => ?_⟩
      have s5 := new1 (o := .lst [.str "and", .str "or"]) hp3
      refine ⟨_, rfl, rfl, .inr ⟨_, rfl, _, _, rfl, rfl, ?_⟩⟩
      dsimp only
      generalize eK : (1 : Int) + (if decide (nV looks = V.int 0) = true then 1 else 0) = kk
      have hk1 : 1 ≤ kk ∧ kk ≤ 2 := by
        rw [← eK]
        split <;> omega
      have hkn : 1 ≤ kk.toNat ∧ kk.toNat ≤ 2 := by omega
      refine ⟨p3, _, _, rfl, rfl, upd_same, by omega, by omega, small (m := 100) (by show 2 * _ ≤ 100; omega), fun p4 hp4 => ?_⟩
      have e1 : (List.replicate kk.toNat [V.str "and", V.str "or"]).flatten = ((List.replicate kk.toNat [("and" : Str), ("or" : Str)]).flatten).map V.str := rep_str _ [("and" : Str), ("or" : Str)]
      rw [e1]
      have s6 := same2 (o := .lst (((List.replicate kk.toNat [("and" : Str), ("or" : Str)]).flatten).map V.str)) s5 hp4
      have hzl : (List.replicate kk.toNat [("and" : Str), ("or" : Str)]).flatten.length ≤ 4 := by
        rw [rep_strl]
        show kk.toNat * 2 ≤ 4
        omega
      refine ⟨W4, p4, _, _, rfl, rfl, s6 _ _ hWl4, upd_same, small (m := 100) (by rw [List.length_map, List.length_map]; omega), fun p5 hp5 => ?_⟩
      refine ⟨p5, ws4 ++ (List.replicate kk.toNat [("and" : Str), ("or" : Str)]).flatten, rfl, hW4.cat (same2 s6 hp5) (jne (Same.tr s4 s6) hp5) (by omega) (fun z hz => ?_) upd_same, by simp [hn4]⟩
      have := rep_strm hz
      simp only [List.mem_cons, List.not_mem_nil, or_false] at this
      exact .inr (.inr (.inr ⟨this, d1⟩))
    · exact ⟨W4, ws4, rfl, hW4.more (Same.refl _) (by omega), hn4⟩
  rintro σ' H5 ⟨W5, ws5, rfl, ⟨s5, hWj5, hW5, hz5, hway⟩, hn5⟩
  have hj5 := hj.same (m' := m) s5
  refine ⟨_, rfl, _, rfl, j, W5, C, cs, m, _, rfl, hj5, by omega, hW5, hWj5, by rw [List.length_map]; exact List.length_pos_iff.mpr hn5, by rw [List.length_map]; omega, fun v6 H6 b56 hj6 hv6 => ?_⟩
  obtain ⟨z, hz, rfl⟩ := List.mem_map.mp hv6
  have b6 : SameBut j H H6 := (Same.but s5).trans b56
  have hL6 := b6 L _ hLj hL
  have jne6 : ∀ {H1 : Hp} {p : Addr}, Same H6 H1 → H1 p = none → p ≠ j := fun {H1 p} s hp z => by
    obtain ⟨_, _, q, _⟩ := hj6
    rw [z, s _ _ q] at hp
    cases hp
  rcases hway z hz with ⟨hz1, hlk1, hrm5⟩ | ⟨rfl, hbd⟩ | ⟨rfl, hlr1⟩ | ⟨hz1, hlr2⟩
  · obtain ⟨so, rfl⟩ : ∃ so, z = lookS so := by
      rcases hz1 with rfl | rfl
      · exact ⟨true, rfl⟩
      · exact ⟨false, rfl⟩
    refine ⟨_, rfl, rfl, _, rfl, ite_no (by cases so <;> decide +kernel) ?_⟩
    refine ⟨_, rfl, (by show 2 ≤ sizeLine; decide), fun p1 hp1 => ?_⟩
    have s1 := new1 (o := .tup [.str "some", .str "all"]) hp1
    refine ⟨p1, _, rfl, .inr (.inl (.inl upd_same)), rfl, rfl, _, rfl, ite_yes (by cases so <;> decide +kernel) ?_⟩
    refine ⟨(by show 3 ≤ sizeLine; decide), fun p2 hp2 => ?_⟩
    have s2 := same2 (o := .lst [.str "x", .str "y", .str "z"]) s1 hp2
    have hfl : (bd.map sV).all flatV = true := by
      rw [List.all_eq_true]
      intro v hv
      obtain ⟨a, _, rfl⟩ := List.mem_map.mp hv
      rfl
    refine ⟨p2, rfl, ⟨_, .inl (.inl upd_same)⟩, fun D hD => ?_⟩
    refine lc_names (l := [Nm.x, Nm.y, Nm.z]) (fun u => !inV (sV u) (bd.map sV)) (walk_listM [Nm.x, Nm.y, Nm.z] sV) hD (by decide) (fun H' s' => .inl (.inl (s' _ _ upd_same))) (fun i u H7 ys Kn Kk hu s3 _ hk hn => ?_) fun H7 s3 hD7 => ?_
    · refine ⟨rfl, _, rfl, _, rfl, L, _, rfl, .inl (.inl (.inl (Same.tr s2 s3 _ _ hL6))), rfl, hfl, _, rfl, ite2 (fun c => ⟨_, rfl, hk c⟩) fun c => hn (Bool.eq_false_iff.mpr c)⟩
    have s4 := Same.tr s2 s3
    refine ⟨_, rfl, _, rfl, D, 3, _, rfl, rfl, hD7, by decide, by decide, small (m := 100) (by
      rw [List.length_map]
      have := List.length_filter_le (fun u => !inV (sV u) (bd.map sV)) [Nm.x, Nm.y, Nm.z]
      have e3 : [Nm.x, Nm.y, Nm.z].length = 3 := rfl
      show _ * 3 ≤ 100
      omega), fun p3 hp3 => ?_⟩
    generalize eF : (List.replicate (3 : Int).toNat (([Nm.x, Nm.y, Nm.z].filter fun u => !inV (sV u) (bd.map sV)).map sV)).flatten = FL
    have hFL : ∀ v ∈ FL, ∃ a, v = sV a := fun v hv => by
      rw [← eF] at hv
      obtain ⟨a, _, rfl⟩ := List.mem_map.mp (rep_mem hv)
      exact ⟨a, rfl⟩
    have hFLn : FL.length ≤ 9 := by
      rw [← eF, rep_len, List.length_map]
      have := List.length_filter_le (fun u => !inV (sV u) (bd.map sV)) [Nm.x, Nm.y, Nm.z]
      have e3 : [Nm.x, Nm.y, Nm.z].length = 3 := rfl
      show 3 * _ ≤ 9
      omega
    have s5 := same2 (o := .lst FL) s4 hp3
    refine ⟨(by show 3 ≤ sizeLine; decide), fun p4 hp4 => ?_⟩
    have s6 := same2 (o := .lst [.str "x", .str "y", .str "z"]) s5 hp4
    refine ⟨p3, p4, _, _, rfl, rfl, new1 hp4 _ _ upd_same, upd_same, small (m := 100) (by show _ + 3 ≤ 100; omega), fun p5 hp5 => ?_⟩
    have s7 := same2 (o := .lst (FL ++ [.str "x", .str "y", .str "z"])) s6 hp5
    refine ⟨j, p5, C, cs, m + 1, _, rfl, hj6.same s7, by omega, upd_same, jne6 s6 hp5, by rw [List.length_append]; show 1 ≤ _ + 3; omega, by rw [List.length_append]; show _ + 3 ≤ 10000; omega, fun v8 H8 b8 hj8 hv8 => ?_⟩
    obtain ⟨a, rfl⟩ : ∃ a, v8 = sV a := by
      rcases List.mem_append.mp hv8 with h | h
      · exact hFL _ h
      · have : v8 = .str "x" ∨ v8 = .str "y" ∨ v8 = .str "z" := by simpa using h
        rcases this with rfl | rfl | rfl
        · exact ⟨.x, rfl⟩
        · exact ⟨.y, rfl⟩
        · exact ⟨.z, rfl⟩
    have b68 : SameBut j H6 H8 := (Same.but s7).trans b8
    have hL8 := b68 L _ hLj hL6
    have jne8 : ∀ {H1 : Hp} {p : Addr}, Same H8 H1 → H1 p = none → p ≠ j := fun {H1 p} s hp z => by
      obtain ⟨_, _, q, _⟩ := hj8
      rw [z, s _ _ q] at hp
      cases hp
    refine ⟨_, rfl, _, rfl, (by show 1 ≤ sizeLine; decide), fun p6 hp6 => ?_⟩
    have t1 := new1 (o := .lst [sV a]) hp6
    refine ⟨p6, rfl, ⟨_, .inl (.inl upd_same)⟩, fun D2 hD2 => ?_⟩
    refine lc_names (l := [a]) (fun u => !inV (sV u) (bd.map sV)) (walk_listM [a] sV) hD2 (by simp) (fun H' s' => .inl (.inl (s' _ _ upd_same))) (fun i u H9 ys Kn Kk hu t2 _ hk hn => ?_) fun H9 t2 hD9 => ?_
    · refine ⟨rfl, _, rfl, _, rfl, L, _, rfl, .inl (.inl (.inl (Same.tr t1 t2 _ _ hL8))), rfl, hfl, _, rfl, ite2 (fun c => ⟨_, rfl, hk c⟩) fun c => hn (Bool.eq_false_iff.mpr c)⟩
    have t3 := Same.tr t1 t2
    have hin : ∀ u, inV (sV u) (bd.map sV) = decide (u ∈ bd) := fun u => by
      unfold sV
      rw [show (bd.map fun u => V.str (nmS u)) = (bd.map nmS).map V.str by rw [List.map_map] <;> rfl, inV_str, List.any_map, Bool.eq_iff_iff, List.any_eq_true, decide_eq_true_eq]
      constructor
      · intro ⟨x, hx, ex⟩
        have : nmS x = nmS u := eq_of_beq ex
        rw [← nmS_inj this]
        exact hx
      · intro hx
        exact ⟨u, hx, beq_self_eq_true _⟩
    obtain ⟨held, eh, hnd2, hmem⟩ : ∃ held : List Nm, held.map sV = bd.map sV ++ ([a].filter fun u => !inV (sV u) (bd.map sV)).map sV ∧ held.Nodup ∧ ∀ b, b ∈ held ↔ b ∈ bd ∨ b = a := by
      refine ⟨bd ++ [a].filter fun u => !inV (sV u) (bd.map sV), by rw [List.map_append], ?_, fun b => ?_⟩
      · refine List.nodup_append.mpr ⟨hnd, List.Pairwise.filter _ (List.nodup_cons.mpr ⟨by simp, List.nodup_nil⟩), fun x hx y hy hxy => ?_⟩
        have := (List.mem_filter.mp hy).2
        rw [hin, ← hxy, decide_eq_true hx] at this
        cases this
      · rw [List.mem_append, List.mem_filter, List.mem_singleton, hin]
        by_cases c : b ∈ bd
        · simp [c]
        · simp [c]
    have hhl := nm_len hnd2
    refine ⟨L, D2, _, _, rfl, rfl, t3 _ _ hL8, hD9, small (m := 100) (by rw [← List.length_append, ← eh, List.length_map]; omega), fun p7 hp7 => ?_⟩
    rw [← eh]
    have t4 := same2 (o := .lst (held.map sV)) t3 hp7
    have hne : held ≠ [] := fun z => by
      have := (hmem a).mpr (.inr rfl)
      rw [z] at this
      cases this
    have el : (looks : Int) - 1 = ((looks - 1 : Nat) : Int) := by omega
    have er : (room : Int) - 2 = ((room - 2 : Nat) : Int) := by omega
    refine ⟨_, rfl, _, rfl, _, rfl, _, rfl, _, rfl, _, _, rfl, rfl, _, rfl, _, _, rfl, rfl, ?_⟩
    dsimp only
    rw [el, er]
    refine ⟨j, p7, C, cs, m + 2, held, looks - 1, room - 2, rfl, hj8.same t4, by omega, upd_same, jne8 t3 hp7, hnd2, fun z => absurd z hne, fun _ => by omega, by omega, by omega, by omega, fun v q H10 b10 hj10 hq10 hsz hlk2 hfr => ?_⟩
    refine ⟨(by show 3 ≤ sizeLine; decide), fun pq hpq => ?_⟩
    have t5 := new1 (o := .tup [.str (lookS so), .str (nmS a), v]) hpq
    refine hQ _ (.look so a q) _ (b6.trans (b68.trans ((Same.but t4).trans (b10.trans (Same.but t5))))) (hj10.same t5 (by simp only [Qn.size]; omega)) ⟨pq, v, rfl, .inl (.inl upd_same), hq10.to (same_sq t5)⟩ (by simp only [Qn.size]; omega) (by simp only [Qn.looks]; omega) fun b hb => ?_
    have hb' := List.mem_filter.mp hb
    rcases (hmem b).mp (hfr b hb'.1) with h | h
    · exact h
    · exact absurd h (of_decide_eq_true hb'.2)
  · refine ⟨_, rfl, rfl, _, rfl, ite_yes (by decide +kernel) ?_⟩
    have hb1' : 1 ≤ bd.length := List.length_pos_iff.mpr hbd
    have := hb1 hbd
    exact ⟨_, rfl, _, rfl, j, L, C, cs, m + 1, bd, rfl, hj6, by omega, hL6, hLj, hb1', hb3, fun v t a b H7 b7 hj7 hq7 ha hb => hQ v (.atom t a b) H7 (b6.trans b7) (hj7.same (Same.refl _) (by simp only [Qn.size]; omega)) hq7 (by simp only [Qn.size]; omega) (Nat.zero_le _) fun x hx => by
      simp only [Qn.free, List.mem_cons, List.not_mem_nil, or_false] at hx
      rcases hx with rfl | rfl
      · exact ha
      · exact hb⟩
  · refine ⟨_, rfl, rfl, _, rfl, ite_no (by decide +kernel) ?_⟩
    refine ⟨_, rfl, (by show 2 ≤ sizeLine; decide), fun p1 hp1 => ?_⟩
    have s1 := new1 (o := .tup [.str "some", .str "all"]) hp1
    refine ⟨p1, _, rfl, .inr (.inl (.inl upd_same)), rfl, rfl, _, rfl, ite_no (by decide +kernel) ?_⟩
    refine ⟨_, rfl, rfl, _, rfl, ite_yes (by decide +kernel) ?_⟩
    have er : (room : Int) - 1 = ((room - 1 : Nat) : Int) := by omega
    refine ⟨_, rfl, _, rfl, _, rfl, _, rfl, _, _, rfl, rfl, ?_⟩
    dsimp only
    rw [er]
    refine ⟨j, L, C, cs, m + 1, bd, looks, room - 1, rfl, hj6.same s1, by omega, s1 _ _ hL6, hLj, hnd, fun z => ⟨(hb0 z).1, by have := hl5 z; omega⟩, fun z => by have := hl3 z; omega, by omega, by omega, by omega, fun v q H10 b10 hj10 hq10 hsz hlk2 hfr => ?_⟩
    refine ⟨(by show 2 ≤ sizeLine; decide), fun pq hpq => ?_⟩
    have t5 := new1 (o := .tup [.str "not", v]) hpq
    exact hQ _ (.neg q) _ (b6.trans ((Same.but s1).trans (b10.trans (Same.but t5)))) (hj10.same t5 (by simp only [Qn.size]; omega)) ⟨pq, v, rfl, .inl (.inl upd_same), hq10.to (same_sq t5)⟩ (by simp only [Qn.size]; omega) hlk2 hfr
  · obtain ⟨so, rfl⟩ : ∃ so, z = binS so := by
      rcases hz1 with rfl | rfl
      · exact ⟨false, rfl⟩
      · exact ⟨true, rfl⟩
    refine ⟨_, rfl, rfl, _, rfl, ite_no (by cases so <;> decide +kernel) ?_⟩
    refine ⟨_, rfl, (by show 2 ≤ sizeLine; decide), fun p1 hp1 => ?_⟩
    have s1 := new1 (o := .tup [.str "some", .str "all"]) hp1
    refine ⟨p1, _, rfl, .inr (.inl (.inl upd_same)), rfl, rfl, _, rfl, ite_no (by cases so <;> decide +kernel) ?_⟩
    refine ⟨_, rfl, rfl, _, rfl, ite_no (by cases so <;> decide +kernel) ?_⟩
    refine ⟨_, rfl, _, rfl, _, rfl, _, rfl, _, rfl, _, rfl, _, rfl, _, _, rfl, rfl, .inl ⟨by decide, by decide⟩, _, _, rfl, rfl, ?_⟩
    refine ⟨j, C, cs, m + 1, _, rfl, hj6.same s1, by omega, by omega, by omega, fun dv H7 b7 hj7 hd0 hd1 => ⟨_, _, rfl, rfl, ?_⟩⟩
    obtain ⟨dn, rfl⟩ : ∃ t : Nat, dv = (t : Int) := ⟨_, (Int.toNat_of_nonneg hd0).symm⟩
    have er : (least : Int) + (dn : Int) = ((least + dn : Nat) : Int) := by omega
    dsimp only
    rw [er]
    have b67 : SameBut j H6 H7 := (Same.but s1).trans b7
    refine ⟨j, L, C, cs, m + 2, bd, looks, least + dn, rfl, hj7, by omega, b67 L _ hLj hL6, hLj, hnd, fun z => ⟨(hb0 z).1, by have := hl5 z; omega⟩, fun z => by have := hl3 z; omega, by omega, by omega, by omega, fun v1 q1 H8 b8 hj8 hq8 hsz1 hlk1 hfr1 => ?_⟩
    refine ⟨_, rfl, _, rfl, _, rfl, _, rfl, _, rfl, _, rfl, _, _, rfl, rfl, _, rfl, v1, q1, rfl, hq8, by have := q1.deep_le; omega, fun H9 s9 => ⟨_, _, rfl, rfl, ?_⟩⟩
    have e2 : (room : Int) - 1 - (q1.size : Int) = ((room - 1 - q1.size : Nat) : Int) := by omega
    dsimp only
    rw [e2]
    have b79 : SameBut j H7 H9 := b8.trans (Same.but s9)
    refine ⟨j, L, C, cs, m + 2 + 2 * q1.size, bd, looks, room - 1 - q1.size, rfl, hj8.same s9, by omega, b79 L _ hLj (b67 L _ hLj hL6), hLj, hnd, fun z => ⟨(hb0 z).1, by have := hl5 z; omega⟩, fun z => by have := hl3 z; omega, by omega, by omega, by omega, fun v2 q2 H10 b10 hj10 hq10 hsz2 hlk2 hfr2 => ?_⟩
    refine ⟨(by show 3 ≤ sizeLine; decide), fun pq hpq => ?_⟩
    have t5 := new1 (o := .tup [.str (binS so), v1, v2]) hpq
    have hq1' : QAt K H10 v1 q1 := by
      obtain ⟨_, _, z1, _⟩ := hj8.same (m' := m + 2 + 2 * q1.size) s9
      exact (hq8.to (same_sq s9)).to fun a xs h => sq_but z1 b10 a xs h
    exact hQ _ (.bin so q1 q2) _ (b6.trans (b67.trans (b79.trans (b10.trans (Same.but t5))))) (hj10.same t5 (by simp only [Qn.size]; omega)) ⟨pq, v1, v2, rfl, .inl (.inl upd_same), hq1'.to (same_sq t5), hq10.to (same_sq t5)⟩ (by simp only [Qn.size]; omega) (by simp only [Qn.looks]; omega) fun b hb => by
      rcases List.mem_append.mp hb with h | h
      · exact hfr1 b h
      · exact hfr2 b h
theorem c__law_question (e : Ev w K mg cS cQ cT) : ∀ n, C8.Cal P w K mg base (n + 50) "_law_question" (spQuest K n) []
  | 0 => calNoneK e.d_law_question b__law_question fun vs H Q E ⟨_, _, _, _, _, _, _, _, _, _, _, _, _, _, _, _, _, _, h, _⟩ => by omega
  | n + 1 => s__law_question e (c__law_question e n)
end
end K61

end

section
set_option linter.all false
set_option maxRecDepth 100000
set_option maxHeartbeats 4000000
/-! K61, walk 22: the law. -/
namespace K61
open PySem PySem.Spec PyProof.Rows L2
mutual
theorem flat_lay : ∀ (n : Nat) (d : PyData), flatD n d = true → PyData.canLay0 d = true ∧ PyData.depth d ≤ n
  | n, .int _, _ => ⟨rfl, by simp [PyData.depth]⟩
  | n + 1, .tuple ds, f => by
    have f' : (decide (ds.length ≤ 1000) && flatAll n ds) = true := f
    rw [Bool.and_eq_true] at f'
    have h := flat_layAll n ds f'.2
    exact ⟨h.1, by have := h.2; simp only [PyData.depth]; omega⟩
  | 0, .tuple ds, f => by simp [flatD] at f
  | 0, .none, f => by simp [flatD] at f
  | 0, .bool _, f => by simp [flatD] at f
  | 0, .str _, f => by simp [flatD] at f
  | 0, .list _, f => by simp [flatD] at f
  | 0, .dict _, f => by simp [flatD] at f
  | n + 1, .none, f => by simp [flatD] at f
  | n + 1, .bool _, f => by simp [flatD] at f
  | n + 1, .str _, f => by simp [flatD] at f
  | n + 1, .list _, f => by simp [flatD] at f
  | n + 1, .dict _, f => by simp [flatD] at f
theorem flat_layAll : ∀ (n : Nat) (ds : List PyData), flatAll n ds = true → PyData.canLayAll0 ds = true ∧ PyData.depthAll ds ≤ n
  | n, [], _ => ⟨rfl, by simp [PyData.depthAll]⟩
  | n, d :: ds, f => by
    have f' : (flatD n d && flatAll n ds) = true := by cases n <;> exact f
    rw [Bool.and_eq_true] at f'
    have h1 := flat_lay n d f'.1
    have h2 := flat_layAll n ds f'.2
    refine ⟨?_, ?_⟩
    · simp only [PyData.canLayAll0, h1.1, h2.1, Bool.and_true]
    · have := h1.2
      have := h2.2
      simp only [PyData.depthAll]
      omega
end
theorem views_shaped {us : List Vw} (hok : VwsOk us) : SeqAt.shaped (.tuple (us.map vwD)) = true := by
  have h := flat_layAll 3 (us.map vwD) (vws_flat hok.2.2.1)
  unfold SeqAt.shaped
  rw [Bool.and_eq_true_iff]
  refine ⟨h.1, decide_eq_true ?_⟩
  have := h.2
  simp only [PyData.depth]
  omega
section
variable {K : PySem.W.Frag} {cQ cT : Addr} {H H' : Hp} {j : Addr} {C : Addr} {cs : List Int} {m : Nat}
theorem sb_sq (hj : JarAt H j C cs m) (s : SameBut j H H') : ∀ a xs, SqT K H a xs → SqT K H' a xs := fun a xs h =>
  let ⟨_, _, h1, _⟩ := hj
  sq_but h1 s a xs h
theorem sb_ins (hj : JarAt H j C cs m) (s : SameBut j H H') {a D dx : Addr} {fs : List (Str × V)} (h : H a = some (.ins D dx fs)) : H' a = some (.ins D dx fs) :=
  let ⟨_, _, h1, _⟩ := hj
  s a _ (fun z => by rw [z, h1] at h; cases h) h
theorem sb_quAt (hj : JarAt H j C cs m) (s : SameBut j H H') {v : V} {q : Qn} : QuAt K cQ H v q → QuAt K cQ H' v q
  | ⟨a, dx, r, tx, f, h1, h2, h3⟩ => ⟨a, dx, r, tx, f, h1, sb_ins hj s h2, h3.to (sb_sq hj s)⟩
theorem sb_town (hj : JarAt H j C cs m) (s : SameBut j H H') {v : V} {n : Nat} {ts : List (Nat × Nat)} : TownAt K cT H v n ts → TownAt K cT H' v n ts
  | ⟨a, dx, t, h1, h2, h3⟩ => ⟨a, dx, t, h1, sb_ins hj s h2, dp_only (sb_sq hj s) _ _ (tiesD_only ts) h3⟩
theorem sb_rows (hj : JarAt H j C cs m) (s : SameBut j H H') {F : Addr} {n : Nat} {rel : Nat → Nat → Prop} : RowsAt H F n rel → RowsAt H' F n rel
  | ⟨rs, h1, h2, h3⟩ => by
    obtain ⟨k, r, hj1, _⟩ := hj
    refine ⟨rs, h1, s F _ (fun z => ?_) h2, fun a r0 hr => ?_⟩
    · rw [z, hj1] at h2
      injection h2 with h2
      injection h2 with h2
      match rs, h2 with
      | [_, _, _], h2 =>
        injection h2 with _ h2
        injection h2 with h2 _
        cases h2
      | [_, _], h2 =>
        injection h2 with _ h2
        injection h2 with h2 _
        cases h2
      | [_], h2 => injection h2 with _ h2; cases h2
      | _ :: _ :: _ :: _ :: _, h2 =>
        injection h2 with _ h2
        injection h2 with h2 _
        cases h2
    · obtain ⟨js, e1, e2⟩ := h3 a r0 hr
      refine ⟨js, s r0 _ (fun z => ?_) e1, e2⟩
      rw [z, hj1] at e1
      injection e1 with e1
      injection e1 with e1
      cases js with
      | nil => cases e1
      | cons x xs => injection e1 with e1 _; cases e1
theorem sb_views (hj : JarAt H j C cs m) (s : SameBut j H H') {v : V} {us : List Vw} (h : Dp K H v (.tuple (us.map vwD))) : Dp K H' v (.tuple (us.map vwD)) :=
  dp_only (sb_sq hj s) _ _ (tupAll_of fun d hd => by
    obtain ⟨u, _, rfl⟩ := List.mem_map.mp hd
    exact vwD_only u) h
def en0 : Nm → Nat := fun _ => 0
/-- what a lap has made -/
structure Lap (K : PySem.W.Frag) (cT : Addr) (H : Hp) (T : Addr) (x F : Addr) (tv : V) (n : Nat) (ts ts' : List (Nat × Nat)) (us : List Vw) : Prop where
  n1 : 1 ≤ n
  n7 : n ≤ 7
  tys : ∃ tys, H T = some (.lst tys) ∧ Each (fun y p => Dp K H y (prD p)) tys ts
  len : ts.length ≤ 36
  ok : ∀ p ∈ ts, p.1 ≠ p.2 ∧ p.1 < n ∧ p.2 < n
  nd : (ts.map norm).Nodup
  town : TownAt K cT H (.ref x) n ts'
  perm : ts'.Perm (ts.map norm)
  rows : RowsAt H F n (fun a b => adjP ts a b = true)
  views : Dp K H tv (.tuple (us.map vwD))
  vok : VwsOk us
  all : ∀ u, u ∈ us ↔ ∃ a, a < n ∧ u = view n (adjP ts) a
theorem Lap.to {T x F : Addr} {tv : V} {n : Nat} {ts ts' : List (Nat × Nat)} {us : List Vw} (h : Lap K cT H T x F tv n ts ts' us) (s : Same H H') : Lap K cT H' T x F tv n ts ts' us :=
  let ⟨tys, t1, t2⟩ := h.tys
  ⟨h.n1, h.n7, ⟨tys, s _ _ t1, t2.mono fun y p d => dp_same s _ _ d⟩, h.len, h.ok, h.nd, h.town.to s, h.perm, h.rows.to s, dp_same s _ _ h.views, h.vok, h.all⟩
theorem Lap.sb {T x F : Addr} {tv : V} {n : Nat} {ts ts' : List (Nat × Nat)} {us : List Vw} (h : Lap K cT H T x F tv n ts ts' us) (hT : T ≠ j) (hj : JarAt H j C cs m) (s : SameBut j H H') : Lap K cT H' T x F tv n ts ts' us :=
  let ⟨tys, t1, t2⟩ := h.tys
  ⟨h.n1, h.n7, ⟨tys, s _ _ hT t1, t2.mono fun y p d => dp_only (sb_sq hj s) _ _ rfl d⟩, h.len, h.ok, h.nd, sb_town hj s h.town, h.perm, sb_rows hj s h.rows, sb_views hj s h.views, h.vok, h.all⟩
theorem Lap.says {T x F : Addr} {tv : V} {n : Nat} {ts ts' : List (Nat × Nat)} {us : List Vw} (h : Lap K cT H T x F tv n ts ts' us) {q : Qn} (hq : q.free = []) (hl : q.looks ≤ 3) (e e' : Nm → Nat) : hb us q .zero e' = sem n (adjP ts) q e :=
  (town_views (adjP_sym ts) (adjP_irr fun p hp => (h.ok p hp).1) h.all hq hl e e').symm
theorem Lap.adj {T x F : Addr} {tv : V} {n : Nat} {ts ts' : List (Nat × Nat)} {us : List Vw} (h : Lap K cT H T x F tv n ts ts' us) : adjP ts' = adjP ts := adjP_perm h.perm
theorem Lap.small {T x F : Addr} {tv : V} {n : Nat} {ts ts' : List (Nat × Nat)} {us : List Vw} (h : Lap K cT H T x F tv n ts ts' us) : ts'.length ≤ 36 ∧ ∀ p ∈ ts', p.1 < n ∧ p.2 < n := by
  refine ⟨by rw [h.perm.length_eq, List.length_map]; exact h.len, fun p hp => ?_⟩
  obtain ⟨r, hr, rfl⟩ := List.mem_map.mp (h.perm.mem_iff.mp hp)
  have := h.ok r hr
  unfold norm
  dsimp only
  omega
/-- views of copies -/
theorem copies_views {n c : Nat} {ts us : List (Nat × Nat)} (hn : 0 < n) (h : ∀ p ∈ ts, p.1 ≠ p.2 ∧ p.1 < n ∧ p.2 < n) (hp : us.Perm ((copiesL n ts c).map norm)) (u : Vw) :
    (∃ a, a < n * c ∧ u = view (n * c) (adjP us) a) ↔ ∃ a, a < n * c ∧ u = view (n * c) (adjC n (adjP ts)) a := by
  rw [adjP_perm hp]
  have e : ∀ a, a < n * c → view (n * c) (adjP (copiesL n ts c)) a = view (n * c) (adjC n (adjP ts)) a := fun a ha => view_congr (fun x y hx hy => adjP_copies hn h hx hy) ha
  constructor
  · intro ⟨a, ha, z⟩
    exact ⟨a, ha, z.trans (e a ha)⟩
  · intro ⟨a, ha, z⟩
    exact ⟨a, ha, z.trans (e a ha).symm⟩
theorem copies_lim {n c : Nat} {ts us : List (Nat × Nat)} (hz : ts.length ≤ 36) (hc : c ≤ 4) (h : ∀ p ∈ ts, p.1 ≠ p.2 ∧ p.1 < n ∧ p.2 < n) (hp : us.Perm ((copiesL n ts c).map norm)) : us.length ≤ 1000 ∧ ∀ p ∈ us, p.1 ≠ p.2 ∧ p.1 < n * c ∧ p.2 < n * c := by
  refine ⟨?_, fun p hp' => ?_⟩
  · rw [hp.length_eq, List.length_map, copies_len]
    have : ts.length * c ≤ 36 * 4 := Nat.mul_le_mul hz hc
    omega
  · obtain ⟨r, hr, rfl⟩ := List.mem_map.mp (hp.mem_iff.mp hp')
    have := copies_lt h c r hr
    unfold norm
    dsimp only
    omega
theorem views_same {n : Nat} {ts us3 us4 : List (Nat × Nat)} {u3 u4 : List Vw} (hn : 0 < n) (h : ∀ p ∈ ts, p.1 ≠ p.2 ∧ p.1 < n ∧ p.2 < n) (h3 : us3.Perm ((copiesL n ts 3).map norm)) (h4 : us4.Perm ((copiesL n ts 4).map norm))
    (k3 : VwsOk u3) (k4 : VwsOk u4) (m3 : ∀ u, u ∈ u3 ↔ ∃ a, a < n * 3 ∧ u = view (n * 3) (adjP us3) a) (m4 : ∀ u, u ∈ u4 ↔ ∃ a, a < n * 4 ∧ u = view (n * 4) (adjP us4) a) : u3 = u4 := by
  refine asc_unique (R := fun a b => DLt (vwD a) (vwD b)) (fun a => dlt_irr _) (fun a b c => dlt_trans) k3.2.2.2 k4.2.2.2 fun u => ?_
  rw [m3, m4, copies_views hn h h3, copies_views hn h h4]
  exact views_copies hn (Nat.le_refl 3) (by decide) (adjP_irr fun p hp => (h p hp).1) u
end
end K61

end

section
set_option linter.all false
set_option maxRecDepth 100000
set_option maxHeartbeats 4000000
/-! K61, walk 23: the law. -/
namespace K61
open PySem PySem.Spec PyProof.Rows L2
section
variable {P : Program} {w : World} {K : PySem.W.Frag} {mg : Str → Option Value} {base : Heap} {cS cQ cT : Addr}
/-- what one of a lap's two questions has left -/
def DueAt (K : PySem.W.Frag) (H : Hp) (n : Nat) (adj : Nat → Nat → Bool) (y : V) (q : Qn) : Prop := ∃ p, y = .ref p ∧ SqT K H p [.bl (sem n adj q en0), nV q.size]
theorem sem_en (n : Nat) (adj : Nat → Nat → Bool) (q : Qn) : sem n adj q (fun _ => 0) = sem n adj q en0 := rfl
theorem sc_law : FnScope ["_law_script", "_law_jar_here", "_law_lap", "_law_things", "_law_ties", "_law_town_here", "_law_rows_here", "_law_views", "_law_dues", "_law_asked", "_law_turn", "_law_node", "_law_due", "_law_question_here", "_law_told", "_law_three", "_law_four"] ["_law_script"] (defScope (top 74)) := ⟨rfl, rfl, rfl, by decide +kernel, rfl, by decide +kernel, by decide +kernel⟩
def spLaw (K : PySem.W.Frag) : Sp := fun vs H Q _ => ∃ (a : Addr) (ns : List Int), vs = [.ref a] ∧ SqL K H a (ns.map V.int) ∧ ns.length ≤ 63 ∧ ∀ H', Q (.bl true) H'
theorem law_ok (e : Ev w K mg cS cQ cT) {fl : Addr} {fdl : FuncData} (FL : FnAt K "law" "law" (top 74) [] fl fdl) : FnOk P w K mg base C8.CX0 120 fl fdl ["_law_script"] (spLaw K) := by
  have c__law_jar := c__law_jar (P := P) (base := base) e
  have c__law_draw := c__law_draw (P := P) (base := base) e
  have c__law_pick := c__law_pick (P := P) (base := base) e
  have c__law_town := c__law_town (P := P) (base := base) e
  have c__law_rows := c__law_rows (P := P) (base := base) e
  have c__law_question := c__law_question (P := P) (base := base) e 45
  have c__law_holds := c__law_holds (P := P) (base := base) e 60
  have c__law_text := c__law_text (P := P) (base := base) e 60
  have c__law_size := c__law_size (P := P) (base := base) e 60
  have c__law_copies := c__law_copies (P := P) (base := base) e
  have c_Town := c_Town (P := P) (base := base) e
  have c_views_of_town := c_views_of_town (P := P) (base := base) e
  have c_holds := c_holds (P := P) (base := base) e
  have c_answer := c_answer (P := P) (base := base) e
  have c_negated := c_negated (P := P) (base := base) e
  have c_both := c_both (P := P) (base := base) e
  have c_either := c_either (P := P) (base := base) e
  obtain ⟨pR, fR, fdR, FR0, stR⟩ := e.m_read
  have FR := read_ok (P := P) (base := base) e FR0
  have bR : Binds K fdR ["text"] [] := FR0.bindsN fun _ _ _ _ _ _ us hl => match us, hl with | [_], _ => rfl
  refine fnD FL sc_law (fun vs H Q E h => ?_) fun f cdv A outer s H vs Q E hr h => ?_
  · obtain ⟨a, _, rfl, _⟩ := h; rfl
  obtain ⟨a, ns, rfl, ha, hns, hQ⟩ := h
  refine ⟨_, (pss_cons (ps_set (i := 1) sc_law.nd rfl (.inl rfl) (C8.pe_c c__law_jar hr (by first | decide | omega) rfl (pa_cons (pv 0) pa_nil)))
    (pss_cons (ps_for PassesOwn.never rfl (pi_range1 rfl e.n_range (pa_cons pe_int pa_nil)) (pg_name (i := 2) sc_law.nd rfl (.inl rfl))
    (pss_cons (ps_asg (C8.pe_c c__law_town hr (by first | decide | omega) rfl (pa_cons (pv 1) (pa_cons (C8.pe_c c__law_pick hr (by first | decide | omega) rfl (pa_cons (pv 1) (pa_cons (pe_lst (pa_cons pe_int (pa_cons pe_int (pa_cons pe_int (pa_cons pe_int (pa_cons pe_int pa_nil)))))) pa_nil))) pa_nil))) (pg_tup rfl (pgs_cons (pg_name (i := 3) sc_law.nd rfl (.inl rfl)) (pgs_cons (pg_name (i := 4) sc_law.nd rfl (.inl rfl)) pgs_nil))))
      (pss_cons (ps_par (i := 5) (j := 6) rfl sc_law.nd rfl rfl (by decide) rfl rfl (pa_cons (C8.pe_mk c_Town hr (by first | decide | omega) rfl (pa_cons (pv 3) (pa_cons (pv 4) pa_nil))) (pa_cons (C8.pe_c c__law_rows hr (by first | decide | omega) rfl (pa_cons (pv 3) (pa_cons (pv 4) pa_nil))) pa_nil)) rfl)
      (pss_cons (ps_set (i := 7) sc_law.nd rfl (.inl rfl) (C8.pe_c c_views_of_town hr (by first | decide | omega) rfl (pa_cons (pv 5) pa_nil)))
      (pss_cons (ps_par (i := 8) (j := 9) rfl sc_law.nd rfl rfl (by decide) rfl rfl (pa_cons (pe_lst pa_nil) (pa_cons (pe_lst pa_nil) pa_nil)) rfl)
      (pss_cons (ps_for PassesOwn.never rfl (pi_range1 rfl e.n_range (pa_cons pe_int pa_nil)) (pg_name (i := 10) sc_law.nd rfl (.inl rfl))
      (pss_cons (ps_set (i := 11) sc_law.nd rfl (.inl rfl) (C8.pe_c c__law_question hr (by first | decide | omega) rfl (pa_cons (pv 1) (pa_cons (pe_lst pa_nil) (pa_cons pe_int (pa_cons (pe_op op_add pe_int (C8.pe_c c__law_draw hr (by first | decide | omega) rfl (pa_cons (pv 1) (pa_cons (pe_op op_sub pe_int (pe_op op_mul pe_int (pv 10))) pa_nil)))) pa_nil))))))
        (pss_cons (ps_set (i := 12) sc_law.nd rfl (.inl rfl) (C8.pe_c c__law_holds hr (by first | decide | omega) rfl (pa_cons (pv 11) (pa_cons (pv 6) (pa_cons (pe_lst (pa_cons pe_int (pa_cons pe_int (pa_cons pe_int pa_nil)))) pa_nil)))))
        (pss_cons (ps_set (i := 13) sc_law.nd rfl (.inl rfl) (pe_stm (pl := _) stR FR (hr.mono (by first | decide | omega)) bR (C8.pe_gc rfl e.g_Question) (pa_cons (C8.pe_c c__law_text hr (by first | decide | omega) rfl (pa_cons (pv 11) pa_nil)) pa_nil)))
        (pss_cons (ps_if (PW.pt (pw_or (pt_cmpR op_ne (C8.pe_c c_holds hr (by first | decide | omega) rfl (pa_cons (pv 5) (pa_cons (pv 13) pa_nil))) (pv 12) (nomark _)) (pw_or1 (pt_cmpR op_ne (C8.pe_c c_answer hr (by first | decide | omega) rfl (pa_cons (pv 7) (pa_cons (pv 13) pa_nil))) (pv 12) (nomark _))))) (pss_one (ps_ret pe_bl)) pss_nil)
        (C8.pss_cut (ps_if (PW.pt (pw_and (pt_cmpR op_lt (C8.pe_c c__law_size hr (by first | decide | omega) rfl (pa_cons (pv 11) pa_nil)) pe_int (nomark _)) (pw_and1 (pt_cmpR op_eq (C8.pe_c c_answer hr (by first | decide | omega) rfl (pa_cons (pv 7) (pa_cons (C8.pe_mt0 (pl := _) c_negated hr (by first | decide | omega) (pv 13)) pa_nil))) (pv 12) (nomark _))))) (pss_one (ps_ret pe_bl)) pss_nil)
        (pss_cons (ps_expr (pe_bm PySem.F.plainAttrs_list PySem.F.slot_list_append PySem.F.type_list_append mt_append (pv 8) (pa_cons (pe_tup (pa_cons (pv 12) (pa_cons (C8.pe_c c__law_size hr (by first | decide | omega) rfl (pa_cons (pv 11) pa_nil)) pa_nil))) pa_nil)))
        (pss_one (ps_expr (pe_bm PySem.F.plainAttrs_list PySem.F.slot_list_append PySem.F.type_list_append mt_append (pv 9) (pa_cons (pv 13) pa_nil)))))))))))
      (C8.pss_cut (ps_if (pt_cmpR op_lt (pe_op op_add (pe_ix ix_tup (pe_ix ix_list (pv 8) pe_int (fun _ _ => rfl)) pe_int (fun _ _ => rfl)) (pe_ix ix_tup (pe_ix ix_list (pv 8) pe_int (fun _ _ => rfl)) pe_int (fun _ _ => rfl))) pe_int (nomark _)) (pss_cons (ps_set (i := 14) sc_law.nd rfl (.inl rfl) (pe_lst (pa_cons (C8.pe_c c_answer hr (by first | decide | omega) rfl (pa_cons (pv 7) (pa_cons (C8.pe_mt (pl := _) c_both hr (by first | decide | omega) (pe_ix ix_list (pv 9) pe_int (fun _ _ => rfl)) (pa_cons (pe_ix ix_list (pv 9) pe_int (fun _ _ => rfl)) pa_nil)) pa_nil))) (pa_cons (C8.pe_c c_answer hr (by first | decide | omega) rfl (pa_cons (pv 7) (pa_cons (C8.pe_mt (pl := _) c_either hr (by first | decide | omega) (pe_ix ix_list (pv 9) pe_int (fun _ _ => rfl)) (pa_cons (pe_ix ix_list (pv 9) pe_int (fun _ _ => rfl)) pa_nil)) pa_nil))) pa_nil))))
        (pss_one (ps_if (pt_cmpR (op_neD hr.units) (pv 14) (pe_lst (pa_cons (pe_and (pe_ix ix_tup (pe_ix ix_list (pv 8) pe_int (fun _ _ => rfl)) pe_int (fun _ _ => rfl)) (pe_one (pe_ix ix_tup (pe_ix ix_list (pv 8) pe_int (fun _ _ => rfl)) pe_int (fun _ _ => rfl)))) (pa_cons (pe_or (pe_ix ix_tup (pe_ix ix_list (pv 8) pe_int (fun _ _ => rfl)) pe_int (fun _ _ => rfl)) (pe_one (pe_ix ix_tup (pe_ix ix_list (pv 8) pe_int (fun _ _ => rfl)) pe_int (fun _ _ => rfl)))) pa_nil))) (nomark _)) (pss_one (ps_ret pe_bl)) pss_nil))) pss_nil)
      (pss_cons (ps_if (pt_cmpR (op_neD hr.units) (C8.pe_c c_views_of_town hr (by first | decide | omega) rfl (pa_cons (C8.pe_c c__law_copies hr (by first | decide | omega) rfl (pa_cons (pv 3) (pa_cons (pv 4) (pa_cons pe_int pa_nil)))) pa_nil)) (C8.pe_c c_views_of_town hr (by first | decide | omega) rfl (pa_cons (C8.pe_c c__law_copies hr (by first | decide | omega) rfl (pa_cons (pv 3) (pa_cons (pv 4) (pa_cons pe_int pa_nil)))) pa_nil)) (nomark _)) (pss_one (ps_ret pe_bl)) pss_nil)
      (pss_one (ps_if (pt_cmpR op_lt (pv 3) pe_int (nomark _)) (pss_cons (ps_par (i := 15) (j := 16) rfl sc_law.nd rfl rfl (by decide) rfl rfl (pa_cons (C8.pe_c c__law_copies hr (by first | decide | omega) rfl (pa_cons (pv 3) (pa_cons (pv 4) (pa_cons pe_int pa_nil)))) (pa_cons (C8.pe_c c__law_copies hr (by first | decide | omega) rfl (pa_cons (pv 3) (pa_cons (pv 4) (pa_cons pe_int pa_nil)))) pa_nil)) rfl)
        (pss_cons (ps_set (i := 14) sc_law.nd rfl (.inl rfl) (pe_lst (pa_cons (C8.pe_c c_holds hr (by first | decide | omega) rfl (pa_cons (pv 15) (pa_cons (pe_ix ix_list (pv 9) pe_int (fun _ _ => rfl)) pa_nil))) (pa_cons (C8.pe_c c_holds hr (by first | decide | omega) rfl (pa_cons (pv 16) (pa_cons (pe_ix ix_list (pv 9) pe_int (fun _ _ => rfl)) pa_nil))) (pa_cons (C8.pe_c c_answer hr (by first | decide | omega) rfl (pa_cons (C8.pe_c c_views_of_town hr (by first | decide | omega) rfl (pa_cons (pv 16) pa_nil)) (pa_cons (pe_ix ix_list (pv 9) pe_int (fun _ _ => rfl)) pa_nil))) pa_nil)))))
        (pss_one (ps_if (pt_cmpR (op_notInT (hu65 hr)) (pv 14) (pe_tup (pa_cons (pe_lst (pa_cons pe_bl (pa_cons pe_bl (pa_cons pe_bl pa_nil)))) (pa_cons (pe_lst (pa_cons pe_bl (pa_cons pe_bl (pa_cons pe_bl pa_nil)))) pa_nil))) rfl) (pss_one (ps_ret pe_bl)) pss_nil)))) pss_nil))))))))))
    (pss_one (ps_ret pe_bl)))), ?_⟩
  refine ⟨_, rfl, a, ns, rfl, ha, hns, fun j C cs H1 s1 hj1 => ?_⟩
  refine ⟨(3 : Int), rfl, by decide, by decide, ?_⟩
  refine for_it (walk_rangeN (n := 3)) (fun i σ' H' => (∃ t2 t3 t4 t5 t6 t7 t8 t9 t10 t11 t12 t13 t14 t15 t16, σ' = [some (.ref a), some (.ref j), t2, t3, t4, t5, t6, t7, t8, t9, t10, t11, t12, t13, t14, t15, t16]) ∧ JarAt H' j C cs (200 * i))
    ⟨⟨_, _, _, _, _, _, _, _, _, _, _, _, _, _, _, rfl⟩, hj1⟩ (fun _ _ _ _ _ => trivial) (fun lap y σ' H2 H3 hi p hY => ?_) fun σ' H2 p => ?_
  · obtain ⟨rfl, rfl⟩ := hY
    obtain ⟨⟨t2, t3, t4, t5, t6, t7, t8, t9, t10, t11, t12, t13, t14, t15, t16, rfl⟩, hj3⟩ := p
    have hi3 : lap < 3 := hi
    refine ⟨_, rfl, _, rfl, (by show 5 ≤ sizeLine; decide), fun p1 hp1 => ?_⟩
    have s1 := new1 (o := .lst [.int 5, .int 5, .int 5, .int 3, .int 7]) hp1
    have p1j : p1 ≠ j := fun z => by
      obtain ⟨_, _, q, _⟩ := hj3
      rw [z, q] at hp1
      cases hp1
    refine ⟨j, p1, C, cs, 200 * lap, _, rfl, hj3.same s1, by omega, upd_same, p1j, by decide, by decide, fun v4 H4 b4 hj4 hv4 => ?_⟩
    obtain ⟨most, rfl, hm1, hm2⟩ : ∃ most : Int, v4 = .int most ∧ 1 ≤ most ∧ most ≤ 7 := by
      have : v4 = .int 5 ∨ v4 = .int 5 ∨ v4 = .int 5 ∨ v4 = .int 3 ∨ v4 = .int 7 := by simpa using hv4
      rcases this with rfl | rfl | rfl | rfl | rfl <;> exact ⟨_, rfl, by decide, by decide⟩
    refine ⟨j, C, cs, 200 * lap + 1, most, rfl, hj4, by omega, hm1, hm2, fun t n T tys ts H5 b5 hj5 ht5 hT5 he5 hTj hz5 hn1 hn7 hok hnd => ?_⟩
    refine ⟨t, _, rfl, .inl (.inl ht5), rfl, _, _, rfl, _, _, rfl, rfl, ?_⟩
    refine ⟨_, rfl, _, rfl, fun x dx hx hdx hne => ?_⟩
    have s6 : Same H5 (upd (upd H5 dx (.own x)) x (.ins cT dx [])) := same2 (new1 hdx) (by rw [upd_ne (Ne.symm hne)]; exact hx)
    refine ⟨x, dx, T, tys, n, ts, rfl, upd_same, s6 _ _ hT5, he5.mono fun y p d => dp_same s6 _ _ d, by omega, hn1, by omega, hok, hnd, fun H7 ts' sb7 htown hperm => ⟨rfl, ?_⟩⟩
    have s7 : Same H5 H7 := fun b o hb => sb7 b o (ne_of_none hb hx) (s6 _ _ hb)
    refine ⟨_, rfl, _, rfl, n, T, tys, ts, rfl, by omega, s7 _ _ hT5, he5.mono fun y p d => dp_same s7 _ _ d, by omega, fun p hp => ⟨(hok p hp).2.1, (hok p hp).2.2⟩, fun F H8 s8 hrows => ?_⟩
    refine ⟨_, _, rfl, ?_⟩
    have hlt' : ts'.length ≤ 36 ∧ ∀ p ∈ ts', p.1 < n ∧ p.2 < n := by
      refine ⟨by rw [hperm.length_eq, List.length_map]; exact hz5, fun p hp => ?_⟩
      obtain ⟨r, hr, rfl⟩ := List.mem_map.mp (hperm.mem_iff.mp hp)
      have := hok r hr
      unfold norm
      dsimp only
      omega
    refine ⟨_, rfl, _, n, ts', rfl, htown.to s8, hn1, by omega, by have := hlt'.1; omega, hlt'.2, fun tv us H9 s9 hviews hvok hall => ?_⟩
    rw [adjP_perm hperm] at hall
    have s79 := Same.tr s8 s9
    have s59 := Same.tr s7 s79
    have L9 : Lap K cT H9 T x F tv n ts ts' us := ⟨hn1, hn7, ⟨tys, s59 _ _ hT5, he5.mono fun y p d => dp_same s59 _ _ d⟩, hz5, hok, hnd, htown.to s79, hperm, hrows.to s9, hviews, hvok, hall⟩
    have hj9 : JarAt H9 j C cs (200 * lap + 15) := hj5.same s59
    refine ⟨Nat.zero_le _, fun D hD => ⟨Nat.zero_le _, fun A hA => ⟨_, _, rfl, ?_⟩⟩⟩
    have sD := new1 (o := .lst []) hD
    have sA := same2 (o := .lst []) sD hA
    have hDj : D ≠ j := fun z => by
      obtain ⟨_, _, q, _⟩ := hj9
      rw [z, q] at hD
      cases hD
    have hAj : A ≠ j := fun z => by
      obtain ⟨_, _, q, _⟩ := hj9
      rw [z, sD _ _ q] at hA
      cases hA
    have hCD : C ≠ D := fun z => by
      obtain ⟨_, _, _, q, _⟩ := hj9
      rw [← z, q] at hD
      cases hD
    have hA9 : H9 A = none := by
      cases q : H9 A with
      | none => rfl
      | some o => rw [sD _ _ q] at hA; cases hA
    have hCA : C ≠ A := fun z => by
      obtain ⟨_, _, _, q, _⟩ := hj9
      rw [← z, q] at hA9
      cases hA9
    have hAD : A ≠ D := fun z => by
      rw [z, upd_same] at hA
      cases hA
    refine ⟨(2 : Int), rfl, by decide, by decide, ?_⟩
    refine for_it (walk_rangeN (n := 2)) (fun i σ' H' => (∃ u10 u11 u12 u13, σ' = [some (.ref a), some (.ref j), some (nV lap), some (nV n), some (.ref T), some (.ref x), some (.ref F), some tv, some (.ref D), some (.ref A), u10, u11, u12, u13, t14, t15, t16]) ∧ JarAt H' j C cs (200 * lap + 15 + 82 * i) ∧ SameBut j H9 H' ∧
        ∃ ds as qs, H' D = some (.lst ds) ∧ H' A = some (.lst as) ∧ Each (DueAt K H' n (adjP ts)) ds qs ∧ Each (QuAt K cQ H') as qs ∧ qs.length = i ∧ ∀ q ∈ qs, q.free = [] ∧ q.looks ≤ 3 ∧ q.size ≤ 40)
      ⟨⟨_, _, _, _, rfl⟩, hj9.same sA, Same.but sA, [], [], [], new1 hA _ _ upd_same, upd_same, .nil, .nil, rfl, fun q hq => by cases hq⟩ (fun _ _ _ _ _ => trivial) (fun turn y σ' H10 H11 hturn p hY => ?_) fun σ' H10 p => ?_
    · obtain ⟨rfl, rfl⟩ := hY
      obtain ⟨⟨u10, u11, u12, u13, rfl⟩, hj11, b9, ds, as, qs, hD11, hA11, hds, has, hql, hqs⟩ := p
      have L11 := L9.sb hTj hj9 b9
      have hturn2 : turn < 2 := hturn
      refine ⟨_, rfl, Nat.zero_le _, fun p2 hp2 => ?_⟩
      have s12 := new1 (o := .lst []) hp2
      have p2j : p2 ≠ j := fun z => by
        obtain ⟨_, _, q, _⟩ := hj11
        rw [z, q] at hp2
        cases hp2
      refine ⟨_, rfl, _, rfl, _, _, rfl, rfl, .inl ⟨by decide, by decide⟩, _, _, rfl, rfl, ?_⟩
      dsimp only
      refine ⟨j, C, cs, 200 * lap + 15 + 82 * turn, _, rfl, hj11.same s12, by omega, by omega, by omega, fun dv H13 b13 hj13 hd0 hd1 => ⟨_, _, rfl, rfl, ?_⟩⟩
      obtain ⟨dn, rfl⟩ : ∃ t : Nat, dv = (t : Int) := ⟨_, (Int.toNat_of_nonneg hd0).symm⟩
      have er : (5 : Int) + (dn : Int) = ((5 + dn : Nat) : Int) := by omega
      dsimp only
      rw [er]
      refine ⟨j, p2, C, cs, 200 * lap + 15 + 82 * turn + 1, [], 3, 5 + dn, rfl, hj13, by omega, b13 p2 _ p2j upd_same, p2j, List.nodup_nil, fun _ => ⟨by decide, by omega⟩, fun z => absurd rfl z, by decide, by omega, by omega, fun nd q H14 b14 hj14 hq14 hsz hlk hfr => ?_⟩
      have hq0 : q.free = [] := List.eq_nil_iff_forall_not_mem.mpr fun a ha => by cases hfr a ha
      have hs40 : q.size ≤ 40 := by omega
      have hdq := q.deep_le
      have b11 : SameBut j H11 H14 := (Same.but s12).trans (b13.trans b14)
      have L14 := L11.sb hTj hj11 b11
      have hD14 := b11 D _ hDj hD11
      have hA14 := b11 A _ hAj hA11
      have hds14 : Each (DueAt K H14 n (adjP ts)) ds qs := hds.mono fun y q ⟨p, h1, h2⟩ => ⟨p, h1, sb_sq hj11 b11 _ _ h2⟩
      have has14 : Each (QuAt K cQ H14) as qs := has.mono fun y q h => sb_quAt hj11 b11 h
      refine ⟨_, rfl, _, rfl, (by show 3 ≤ sizeLine; decide), fun p3 hp3 => ?_⟩
      have s15 := new1 (o := .lst [.int 0, .int 0, .int 0]) hp3
      refine ⟨nd, F, p3, q, n, adjP ts, en0, rfl, hq14.to (same_sq s15), by omega, L14.rows.to s15, by omega, upd_same, fun _ => hn1, fun H16 s16 => ?_⟩
      have s1416 := Same.tr s15 s16
      refine ⟨_, rfl, nd, q, rfl, hq14.to (same_sq s1416), by omega, by omega, fun tx H17 s17 htx => ?_⟩
      refine ⟨tx, q, rfl, htx.split, small (m := 1000) (by have := htx.len; omega), hs40, hq0, fun xq H18 s18 hxq => ?_⟩
      have s1418 := Same.tr s1416 (Same.tr s17 s18)
      have L18 := L14.to s1418
      have hl18 := L18.small
      refine ⟨_, rfl, _, rfl, .ref x, .ref xq, n, ts', q, rfl, L18.town, hxq, by omega, by have := hl18.1; omega, hl18.2, hq0, hlk, hs40, fun H19 s19 => ?_⟩
      rw [L18.adj, sem_en]
      refine ⟨_, rfl, rfl, _, rfl, ite_no (by simp) ?_⟩
      have L19 := L18.to s19
      refine ⟨_, rfl, _, rfl, tv, .ref xq, us, q, rfl, L19.views, L19.vok, hxq.to s19, hq0, hlk, hs40, fun H20 s20 => ?_⟩
      rw [L19.says hq0 hlk en0]
      refine ⟨_, rfl, rfl, _, rfl, ite_no (by simp) ?_⟩
      have s1420 := Same.tr s1418 (Same.tr s19 s20)
      refine ⟨fun σ' H' => Same H20 H' ∧ σ' = [some (.ref a), some (.ref j), some (nV lap), some (nV n), some (.ref T), some (.ref x), some (.ref F), some tv, some (.ref D), some (.ref A), some (nV turn), some nd, some (.bl (sem n (adjP ts) q en0)), some (.ref xq), t14, t15, t16], ?_, ?_⟩
      · refine ⟨_, rfl, nd, q, rfl, hq14.to (same_sq s1420), by omega, fun H21 s21 => ⟨_, _, rfl, rfl, _, rfl, ?_⟩⟩
        have s1821 := Same.tr s19 (Same.tr s20 s21)
        have L21 := L18.to s1821
        have hx21 := hxq.to s1821
        refine ite2 (fun c1 => ?_) (fun _ => ite_no rfl ⟨s21, rfl⟩)
        have hs39 : q.size < 40 := by have := of_decide_eq_true c1; omega
        obtain ⟨bq, dy, rq, txq, fq, eq1, hb0, hqq⟩ := id hx21
        cases eq1
        refine ⟨_, rfl, _, rfl, xq, dy, _, rfl, hb0, rfl, ?_⟩
        refine ⟨_, q, rfl, hx21, hs39, hq0, fun y2 H22 s22 hy2 => ?_⟩
        refine ⟨tv, .ref y2, us, .neg q, rfl, (L21.to s22).views, L21.vok, hy2, hq0, hlk, by simp only [Qn.size]; omega, fun H23 s23 => ?_⟩
        refine ⟨_, rfl, rfl, _, rfl, ite_no ?_ ⟨Same.tr s21 (Same.tr s22 s23), rfl⟩⟩
        rw [L21.says (q := .neg q) hq0 hlk en0]
        show decide (V.bl (!sem n (adjP ts) q en0) = V.bl (sem n (adjP ts) q en0)) = false
        cases sem n (adjP ts) q en0 <;> decide
      rintro σ' H22 ⟨s22, rfl⟩
      have s1422 := Same.tr s1420 s22
      have s1822 := Same.tr s19 (Same.tr s20 s22)
      have hD22 := s1422 _ _ hD14
      have hA22 := s1422 _ _ hA14
      refine ⟨_, rfl, .inl ⟨rfl, _, .inl (.inl hD22)⟩, _, rfl, _, rfl, nd, q, rfl, hq14.to (same_sq s1422), by omega, fun H24 s24 => ?_⟩
      refine ⟨(by show 2 ≤ sizeLine; decide), fun pd hpd => ?_⟩
      have s25 := new1 (o := .tup [.bl (sem n (adjP ts) q en0), nV q.size]) hpd
      have s1425 := Same.tr s1422 (Same.tr s24 s25)
      have hD25 := s1425 _ _ hD14
      have hA25 := s1425 _ _ hA14
      generalize eH25 : upd H24 pd (.tup [.bl (sem n (adjP ts) q en0), nV q.size]) = H25 at s25 s1425 hD25 hA25
      have hpd25 : H25 pd = some (.tup [.bl (sem n (adjP ts) q en0), nV q.size]) := by rw [← eH25, upd_same]
      have hlds : ds.length ≤ 2 := by rw [hds.1]; omega
      have hlas : as.length ≤ 2 := by rw [has.1]; omega
      have eH25' : upd H24 pd (.tup [.bl (sem n (adjP ts) q en0), .int (q.size : Int)]) = H25 := eH25
      rw [eH25']
      refine ⟨D, ds, _, rfl, rfl, hD25, smallLt (m := 2) hlds, ?_⟩
      have b26 : SameBut D H25 (upd H25 D (.lst (ds ++ [.ref pd]))) := .upd
      have hD26 : (upd H25 D (.lst (ds ++ [.ref pd]))) D = some (.lst (ds ++ [.ref pd])) := upd_same
      have hA26 : (upd H25 D (.lst (ds ++ [.ref pd]))) A = some (.lst as) := by rw [upd_ne hAD]; exact hA25
      refine ⟨_, rfl, .inl ⟨rfl, _, .inl (.inl hA26)⟩, _, rfl, A, as, _, rfl, rfl, hA26, smallLt (m := 2) hlas, ?_⟩
      have b27 : SameBut A (upd H25 D (.lst (ds ++ [.ref pd]))) (upd (upd H25 D (.lst (ds ++ [.ref pd]))) A (.lst (as ++ [.ref xq]))) := .upd
      generalize eH27 : upd (upd H25 D (.lst (ds ++ [.ref pd]))) A (.lst (as ++ [.ref xq])) = H27 at b27
      have k27 : ∀ b o, b ≠ D → b ≠ A → H25 b = some o → H27 b = some o := fun b o h1 h2 h => b27 b o h2 (b26 b o h1 h)
      have sq27 : ∀ a xs, SqT K H25 a xs → SqT K H27 a xs := fun a xs h => sq_but hA26 b27 a xs (sq_but hD25 b26 a xs h)
      have qu27 : ∀ y q, QuAt K cQ H25 y q → QuAt K cQ H27 y q := fun y q ⟨a, dx, r, tx, f, h1, h2, h3⟩ => ⟨a, dx, r, tx, f, h1, k27 _ _ (ne_of h2 hD25 (by intro z; cases z)) (ne_of h2 hA25 (by intro z; cases z)) h2, h3.to sq27⟩
      have b9x : SameBut j H9 H27 := fun b o hbj hb => by
        refine k27 b o (ne_of_none hb hD) (ne_of_none hb hA9) (s1425 _ _ (b11 b o hbj (b9 b o hbj hb)))
      have hj27 : JarAt H27 j C cs (200 * lap + 15 + 82 * (turn + 1)) := by
        obtain ⟨k, r, z1, z2, z3, z4⟩ := hj14.same s1425 (m' := 200 * lap + 15 + 82 * (turn + 1)) (by omega)
        exact ⟨k, r, k27 _ _ (Ne.symm hDj) (Ne.symm hAj) z1, k27 _ _ hCD hCA z2, z3, z4⟩
      refine ⟨⟨_, _, _, _, rfl⟩, hj27, b9x, ds ++ [.ref pd], as ++ [.ref xq], qs ++ [q], by rw [← eH27, upd_ne (Ne.symm hAD)]; exact hD26, by rw [← eH27, upd_same], ?_, ?_, by rw [List.length_append, hql] <;> rfl, fun r hr => ?_⟩
      · exact .app (hds14.mono fun y q ⟨p, h1, h2⟩ => ⟨p, h1, sq27 _ _ (sqT s1425 h2)⟩) (.cons ⟨pd, rfl, sq27 _ _ (.inl (.inl hpd25))⟩ .nil)
      · exact .app (has14.mono fun y q h => qu27 _ _ (h.to s1425)) (.cons (qu27 _ _ (hxq.to (Same.tr s1822 (Same.tr s24 s25)))) .nil)
      · rcases List.mem_append.mp hr with h | h
        · exact hqs r h
        · rw [List.mem_singleton] at h
          subst h
          exact ⟨hq0, hlk, hs40⟩
    · obtain ⟨⟨u10, u11, u12, u13, rfl⟩, hj11, b9, ds, as, qs, hD11, hA11, hds, has, hql, hqs⟩ := p
      have L11 := L9.sb hTj hj9 b9
      obtain ⟨q0, q1, rfl⟩ : ∃ q0 q1, qs = [q0, q1] := match qs, hql with
        | [q0, q1], _ => ⟨q0, q1, rfl⟩
      obtain ⟨d0, d1, rfl⟩ : ∃ d0 d1, ds = [d0, d1] := match ds, hds.1 with
        | [d0, d1], _ => ⟨d0, d1, rfl⟩
      obtain ⟨a0, a1, rfl⟩ : ∃ a0 a1, as = [a0, a1] := match as, has.1 with
        | [a0, a1], _ => ⟨a0, a1, rfl⟩
      obtain ⟨p0, rfl, hp0⟩ := hds.2 0 d0 q0 rfl rfl
      obtain ⟨p1', rfl, hp1'⟩ := hds.2 1 d1 q1 rfl rfl
      have hx0 := has.2 0 a0 q0 rfl rfl
      have hx1 := has.2 1 a1 q1 rfl rfl
      have k0 := hqs q0 (by simp)
      have k1 := hqs q1 (by simp)
      refine ⟨fun σ' H' => Same H10 H' ∧ ∃ v14, σ' = [some (.ref a), some (.ref j), some (nV lap), some (nV n), some (.ref T), some (.ref x), some (.ref F), some tv, some (.ref D), some (.ref A), u10, u11, u12, u13, v14, t15, t16], ?_, ?_⟩
      · refine ⟨_, rfl, D, _, _, _, rfl, rfl, .inl (.inl hD11), atN (i := 0) rfl, p0, _, _, _, rfl, rfl, hp0, atN (i := 1) rfl, ?_⟩
        refine ⟨_, rfl, D, _, _, _, rfl, rfl, .inl (.inl hD11), atN (i := 1) rfl, p1', _, _, _, rfl, rfl, hp1', atN (i := 1) rfl, _, _, rfl, rfl, _, _, rfl, rfl, _, rfl, ?_⟩
        refine ite2 (fun c1 => ?_) fun c1 => ⟨Same.refl _, _, rfl⟩
        have hsz : q0.size + q1.size < 40 := by have := of_decide_eq_true c1; omega
        obtain ⟨b0, dy0, r0, x0, f0, e0, hb0, hq0'⟩ := id hx0
        cases e0
        refine ⟨_, rfl, _, rfl, A, _, _, _, rfl, rfl, .inl (.inl hA11), atN (i := 0) rfl, b0, dy0, _, rfl, hb0, rfl, _, rfl, A, _, _, _, rfl, rfl, .inl (.inl hA11), atN (i := 1) rfl, ?_⟩
        refine ⟨_, _, q0, q1, rfl, hx0, hx1, hsz, k0.1, k1.1, fun y1 H21 s21 hy1 => ?_⟩
        have fb : ∀ o, (Qn.bin o q0 q1).free = [] := fun o => by simp only [Qn.free, k0.1, k1.1, List.append_nil]
        have lb : ∀ o, (Qn.bin o q0 q1).looks ≤ 3 := fun o => by simp only [Qn.looks]; have := k0.2.1; have := k1.2.1; omega
        have zb : ∀ o, (Qn.bin o q0 q1).size ≤ 40 := fun o => by simp only [Qn.size]; omega
        refine ⟨tv, .ref y1, us, .bin false q0 q1, rfl, (L11.to s21).views, L11.vok, hy1, fb _, lb _, zb _, fun H22 s22 => ?_⟩
        have s2 := Same.tr s21 s22
        refine ⟨_, rfl, _, rfl, A, _, _, _, rfl, rfl, .inl (.inl (s2 _ _ hA11)), atN (i := 0) rfl, b0, dy0, _, rfl, s2 _ _ hb0, rfl, _, rfl, A, _, _, _, rfl, rfl, .inl (.inl (s2 _ _ hA11)), atN (i := 1) rfl, ?_⟩
        refine ⟨_, _, q0, q1, rfl, hx0.to s2, hx1.to s2, hsz, k0.1, k1.1, fun y2 H23 s23 hy2 => ?_⟩
        have s3 := Same.tr s2 s23
        refine ⟨tv, .ref y2, us, .bin true q0 q1, rfl, (L11.to s3).views, L11.vok, hy2, fb _, lb _, zb _, fun H24 s24 => ?_⟩
        have s4 := Same.tr s3 s24
        rw [L11.says (fb _) (lb _) en0, L11.says (fb _) (lb _) en0]
        have ea : sem n (adjP ts) (.bin false q0 q1) en0 = (sem n (adjP ts) q0 en0 && sem n (adjP ts) q1 en0) := rfl
        have eo : sem n (adjP ts) (.bin true q0 q1) en0 = (sem n (adjP ts) q0 en0 || sem n (adjP ts) q1 en0) := rfl
        rw [ea, eo]
        generalize sem n (adjP ts) q0 en0 = v0 at hp0
        generalize sem n (adjP ts) q1 en0 = v1 at hp1'
        refine ⟨(by show 2 ≤ sizeLine; decide), fun pt hpt => ?_⟩
        have s5 := same2 (o := .lst [.bl (v0 && v1), .bl (v0 || v1)]) s4 hpt
        refine ⟨_, rfl, _, rfl, D, _, _, _, rfl, rfl, .inl (.inl (s5 _ _ hD11)), atN (i := 0) rfl, p0, _, _, _, rfl, rfl, sqT s5 hp0, atN (i := 0) rfl, v0, rfl, ?_⟩
        have fin : ∀ pn, (upd H24 pt (.lst [.bl (v0 && v1), .bl (v0 || v1)])) pn = none → SeqAt.shaped (.list [.bool (v0 && v1), .bool (v0 || v1)]) = true ∧ Same H10 (upd (upd H24 pt (.lst [.bl (v0 && v1), .bl (v0 || v1)])) pn (.lst [.bl (v0 && v1), .bl (v0 || v1)])) ∧
            Dp K (upd (upd H24 pt (.lst [.bl (v0 && v1), .bl (v0 || v1)])) pn (.lst [.bl (v0 && v1), .bl (v0 || v1)])) (.ref pt) (.list [.bool (v0 && v1), .bool (v0 || v1)]) ∧
            Dp K (upd (upd H24 pt (.lst [.bl (v0 && v1), .bl (v0 || v1)])) pn (.lst [.bl (v0 && v1), .bl (v0 || v1)])) (.ref pn) (.list [.bool (v0 && v1), .bool (v0 || v1)]) := fun pn hpn => by
          refine ⟨by simp [SeqAt.shaped, PyData.canLay0, PyData.canLayAll0, PyData.depth, PyData.depthAll], same2 s5 hpn, .lst (.inl (.inl (new1 hpn _ _ upd_same))) (.cons (.bl _) (.cons (.bl _) .nil)), .lst (.inl (.inl upd_same)) (.cons (.bl _) (.cons (.bl _) .nil))⟩
        cases v0 with
        | true =>
          refine ite_yes rfl ⟨_, rfl, D, _, _, _, rfl, rfl, .inl (.inl (s5 _ _ hD11)), atN (i := 1) rfl, p1', _, _, _, rfl, rfl, sqT s5 hp1', atN (i := 0) rfl, ?_⟩
          refine ⟨_, rfl, D, _, _, _, rfl, rfl, .inl (.inl (s5 _ _ hD11)), atN (i := 0) rfl, p0, _, _, _, rfl, rfl, sqT s5 hp0, atN (i := 0) rfl, true, rfl, ite_yes rfl ?_⟩
          refine ⟨(by show 2 ≤ sizeLine; decide), fun pn hpn => ?_⟩
          obtain ⟨f1, f2, f3, f4⟩ := fin pn hpn
          exact ⟨_, _, f3, f4, f1, f1, _, rfl, ite_no (by cases v1 <;> rfl) ⟨f2, _, rfl⟩⟩
        | false =>
          refine ite_no rfl ?_
          refine ⟨_, rfl, D, _, _, _, rfl, rfl, .inl (.inl (s5 _ _ hD11)), atN (i := 0) rfl, p0, _, _, _, rfl, rfl, sqT s5 hp0, atN (i := 0) rfl, false, rfl, ite_no rfl ?_⟩
          refine ⟨_, rfl, D, _, _, _, rfl, rfl, .inl (.inl (s5 _ _ hD11)), atN (i := 1) rfl, p1', _, _, _, rfl, rfl, sqT s5 hp1', atN (i := 0) rfl, ?_⟩
          refine ⟨(by show 2 ≤ sizeLine; decide), fun pn hpn => ?_⟩
          obtain ⟨f1, f2, f3, f4⟩ := fin pn hpn
          exact ⟨_, _, f3, f4, f1, f1, _, rfl, ite_no (by cases v1 <;> rfl) ⟨f2, _, rfl⟩⟩
      rintro σ' H20 ⟨s20, v14, rfl⟩
      have L20 := L11.to s20
      have hA20 := s20 _ _ hA11
      have hx20 := hx1.to s20
      have hj20 : JarAt H20 j C cs (200 * (lap + 1)) := hj11.same s20
      obtain ⟨tys2, hT20, he20⟩ := L20.tys
      refine ⟨_, rfl, _, rfl, n, 3, T, tys2, ts, rfl, hT20, he20, hz5, hn1, hn7, by decide, by decide, hok, hnd, fun x3 H21 us3 s21 ht3 hp3 => ?_⟩
      have z3 := copies_lim hz5 (by decide) hok hp3
      refine ⟨.ref x3, n * 3, us3, rfl, ht3, by omega, by omega, z3.1, fun p hp => (z3.2 p hp).2, fun tv3 u3 H22 s22 hv3 hok3 hall3 => ?_⟩
      have s2 := Same.tr s21 s22
      refine ⟨_, rfl, _, rfl, n, 4, T, tys2, ts, rfl, s2 _ _ hT20, he20.mono fun y p d => dp_same s2 _ _ d, hz5, hn1, hn7, by decide, by decide, hok, hnd, fun x4 H23 us4 s23 ht4 hp4 => ?_⟩
      have z4 := copies_lim hz5 (by decide) hok hp4
      refine ⟨.ref x4, n * 4, us4, rfl, ht4, by omega, by omega, z4.1, fun p hp => (z4.2 p hp).2, fun tv4 u4 H24 s24 hv4 hok4 hall4 => ?_⟩
      have s234 := Same.tr s23 s24
      have s4 := Same.tr s2 s234
      have eu : u3 = u4 := views_same hn1 hok hp3 hp4 hok3 hok4 hall3 hall4
      refine ⟨.tuple (u3.map vwD), .tuple (u4.map vwD), dp_same s234 _ _ hv3, hv4, views_shaped hok3, views_shaped hok4, _, rfl, ite_no (by rw [(vws_eqv u3 u4).mpr eu]; rfl) ?_⟩
      have hA24 := s4 _ _ hA20
      refine ⟨_, rfl, _, _, rfl, rfl, _, rfl, ite2 (fun c1 => ?_) fun c1 => ⟨⟨_, _, _, _, _, _, _, _, _, _, _, _, _, _, _, rfl⟩, hj20.same s4⟩⟩
      refine ⟨_, rfl, _, rfl, n, 3, T, tys2, ts, rfl, s4 _ _ hT20, he20.mono fun y p d => dp_same s4 _ _ d, hz5, hn1, hn7, by decide, by decide, hok, hnd, fun x5 H25 us5 s25 ht5 hp5 => ?_⟩
      have s5 := Same.tr s4 s25
      refine ⟨_, rfl, _, rfl, n, 4, T, tys2, ts, rfl, s5 _ _ hT20, he20.mono fun y p d => dp_same s5 _ _ d, hz5, hn1, hn7, by decide, by decide, hok, hnd, fun x6 H26 us6 s26 ht6 hp6 => ?_⟩
      have s6 := Same.tr s5 s26
      have z5 := copies_lim hz5 (by decide) hok hp5
      have z6 := copies_lim hz5 (by decide) hok hp6
      have w3 : sem (n * 3) (adjP us5) q1 en0 = hb u3 q1 .zero en0 := by
        rw [(adjP_perm hp5).trans (adjP_perm hp3).symm]
        exact town_views (adjP_sym us3) (adjP_irr fun p hp => (z3.2 p hp).1) hall3 k1.1 k1.2.1 _ _
      have w4 : sem (n * 4) (adjP us6) q1 en0 = hb u3 q1 .zero en0 := by
        rw [(adjP_perm hp6).trans (adjP_perm hp4).symm, eu]
        exact town_views (adjP_sym us4) (adjP_irr fun p hp => (z4.2 p hp).1) hall4 k1.1 k1.2.1 _ _
      refine ⟨_, _, rfl, ?_⟩
      refine ⟨_, rfl, _, rfl, A, _, _, _, rfl, rfl, .inl (.inl (s6 _ _ hA20)), atN (i := 1) rfl, ?_⟩
      refine ⟨.ref x5, _, n * 3, us5, q1, rfl, ht5.to s26, hx20.to s6, by omega, z5.1, fun p hp => (z5.2 p hp).2, k1.1, k1.2.1, k1.2.2, fun H27 s27 => ?_⟩
      have s7 := Same.tr s6 s27
      refine ⟨_, rfl, _, rfl, A, _, _, _, rfl, rfl, .inl (.inl (s7 _ _ hA20)), atN (i := 1) rfl, ?_⟩
      refine ⟨.ref x6, _, n * 4, us6, q1, rfl, ht6.to s27, hx20.to s7, by omega, z6.1, fun p hp => (z6.2 p hp).2, k1.1, k1.2.1, k1.2.2, fun H28 s28 => ?_⟩
      have s8 := Same.tr s7 s28
      refine ⟨_, rfl, .ref x6, n * 4, us6, rfl, ht6.to (Same.tr s27 s28), by omega, by omega, z6.1, fun p hp => (z6.2 p hp).2, fun tv6 u6 H29 s29 hv6 hok6 hall6 => ?_⟩
      have s9' := Same.tr s8 s29
      refine ⟨_, rfl, A, _, _, _, rfl, rfl, .inl (.inl (s9' _ _ hA20)), atN (i := 1) rfl, ?_⟩
      refine ⟨tv6, _, u6, q1, rfl, hv6, hok6, hx20.to s9', k1.1, k1.2.1, k1.2.2, fun H30 s30 => ?_⟩
      have w6 : hb u6 q1 .zero en0 = hb u3 q1 .zero en0 := by
        rw [← w4]
        exact (town_views (adjP_sym us6) (adjP_irr fun p hp => (z6.2 p hp).1) hall6 k1.1 k1.2.1 _ _).symm
      have s10 := Same.tr s9' s30
      have w6' : hb u6 q1 .zero (fun _ => 0) = hb u3 q1 .zero en0 := w6
      rw [sem_en, sem_en, w3, w4, w6']
      generalize hb u3 q1 .zero en0 = V0
      refine ⟨(by show 3 ≤ sizeLine; decide), fun pt hpt => ?_⟩
      have s11 := same2 (o := .lst [.bl V0, .bl V0, .bl V0]) s10 hpt
      refine ⟨_, rfl, (by show 3 ≤ sizeLine; decide), fun pa hpa => ?_⟩
      have t1 := new1 (o := .lst [.bl true, .bl true, .bl true]) hpa
      refine ⟨(by show 3 ≤ sizeLine; decide), fun pb hpb => ?_⟩
      have t2' := new1 (o := .lst [.bl false, .bl false, .bl false]) hpb
      refine ⟨(by show 2 ≤ sizeLine; decide), fun pc hpc => ?_⟩
      have t3' := new1 (o := .tup [.ref pa, .ref pb]) hpc
      refine ⟨.list [.bool V0, .bool V0, .bool V0], [.list [.bool true, .bool true, .bool true], .list [.bool false, .bool false, .bool false]], ?_, ?_, ?_, ?_, _, rfl, ite_no (by cases V0 <;> rfl) ?_⟩
      · exact .lst (.inl (.inl (t3' _ _ (t2' _ _ (t1 _ _ upd_same))))) (.cons (.bl _) (.cons (.bl _) (.cons (.bl _) .nil)))
      · exact .tup (.inl (.inl upd_same)) (.cons (.lst (.inl (.inl (t3' _ _ (t2' _ _ upd_same)))) (.cons (.bl _) (.cons (.bl _) (.cons (.bl _) .nil)))) (.cons (.lst (.inl (.inl (t3' _ _ upd_same))) (.cons (.bl _) (.cons (.bl _) (.cons (.bl _) .nil)))) .nil))
      · simp [SeqAt.shaped, PyData.canLay0, PyData.canLayAll0, PyData.depth, PyData.depthAll]
      · simp [SeqAt.shaped, PyData.canLay0, PyData.canLayAll0, PyData.depth, PyData.depthAll]
      · exact ⟨⟨_, _, _, _, _, _, _, _, _, _, _, _, _, _, _, rfl⟩, hj20.same (Same.tr s11 (Same.tr t1 (Same.tr t2' t3')))⟩
  · obtain ⟨⟨t2, t3, t4, t5, t6, t7, t8, t9, t10, t11, t12, t13, t14, t15, t16, rfl⟩, hj2⟩ := p
    exact hQ _
end
end K61

end

section
set_option linter.all false
set_option maxRecDepth 100000
set_option maxHeartbeats 0
/-! K61, the head: what the top leaves. -/
namespace K61
open PySem PySem.Spec PyProof.Rows L2
def dTn (K : PySem.W.Frag) : Addr := He.dflAt ("Town", some "__init__") 0 K
def d_is_integer : He.DefD := ⟨("is_integer", none), "is_integer", "is_integer", defArgs (top 11), defBody (top 11), defScope (top 11), [], []⟩
def d_is_within : He.DefD := ⟨("is_within", none), "is_within", "is_within", defArgs (top 12), defBody (top 12), defScope (top 12), [], []⟩
def d_are_integers : He.DefD := ⟨("are_integers", none), "are_integers", "are_integers", defArgs (top 13), defBody (top 13), defScope (top 13), [], []⟩
def d_is_lot : He.DefD := ⟨("is_lot", none), "is_lot", "is_lot", defArgs (top 14), defBody (top 14), defScope (top 14), [], []⟩
def d_fixed : He.DefD := ⟨("fixed", none), "fixed", "fixed", defArgs (top 16), defBody (top 16), defScope (top 16), [], []⟩
def d_need_question : He.DefD := ⟨("need_question", none), "need_question", "need_question", defArgs (top 29), defBody (top 29), defScope (top 29), [.str "question"], []⟩
def d_need_closed : He.DefD := ⟨("need_closed", none), "need_closed", "need_closed", defArgs (top 30), defBody (top 30), defScope (top 30), [], []⟩
def d_take_root : He.DefD := ⟨("take_root", none), "take_root", "take_root", defArgs (top 31), defBody (top 31), defScope (top 31), [], []⟩
def d_items_of : He.DefD := ⟨("items_of", none), "items_of", "items_of", defArgs (top 32), defBody (top 32), defScope (top 32), [], []⟩
def d_free_of : He.DefD := ⟨("free_of", none), "free_of", "free_of", defArgs (top 33), defBody (top 33), defScope (top 33), [], []⟩
def d_looks_of : He.DefD := ⟨("looks_of", none), "looks_of", "looks_of", defArgs (top 34), defBody (top 34), defScope (top 34), [], []⟩
def d_need_town : He.DefD := ⟨("need_town", none), "need_town", "need_town", defArgs (top 38), defBody (top 38), defScope (top 38), [.str "town"], []⟩
def d_is_pair : He.DefD := ⟨("is_pair", none), "is_pair", "is_pair", defArgs (top 39), defBody (top 39), defScope (top 39), [], []⟩
def d_are_pairs : He.DefD := ⟨("are_pairs", none), "are_pairs", "are_pairs", defArgs (top 40), defBody (top 40), defScope (top 40), [], []⟩
def d_friends_in : He.DefD := ⟨("friends_in", none), "friends_in", "friends_in", defArgs (top 42), defBody (top 42), defScope (top 42), [], []⟩
def d_is_so : He.DefD := ⟨("is_so", none), "is_so", "is_so", defArgs (top 43), defBody (top 43), defScope (top 43), [], []⟩
def d_holds : He.DefD := ⟨("holds", none), "holds", "holds", defArgs (top 44), defBody (top 44), defScope (top 44), [], []⟩
def d_masks_of : He.DefD := ⟨("masks_of", none), "masks_of", "masks_of", defArgs (top 48), defBody (top 48), defScope (top 48), [], []⟩
def d_sight_of : He.DefD := ⟨("sight_of", none), "sight_of", "sight_of", defArgs (top 49), defBody (top 49), defScope (top 49), [], []⟩
def d_views_in : He.DefD := ⟨("views_in", none), "views_in", "views_in", defArgs (top 50), defBody (top 50), defScope (top 50), [], []⟩
def d_views_of_town : He.DefD := ⟨("views_of_town", none), "views_of_town", "views_of_town", defArgs (top 51), defBody (top 51), defScope (top 51), [], []⟩
def d_are_unlike : He.DefD := ⟨("are_unlike", none), "are_unlike", "are_unlike", defArgs (top 52), defBody (top 52), defScope (top 52), [], []⟩
def d_is_sight : He.DefD := ⟨("is_sight", none), "is_sight", "is_sight", defArgs (top 53), defBody (top 53), defScope (top 53), [], []⟩
def d_is_view : He.DefD := ⟨("is_view", none), "is_view", "is_view", defArgs (top 54), defBody (top 54), defScope (top 54), [], []⟩
def d_are_views : He.DefD := ⟨("are_views", none), "are_views", "are_views", defArgs (top 55), defBody (top 55), defScope (top 55), [], []⟩
def d_ties_of_third : He.DefD := ⟨("ties_of_third", none), "ties_of_third", "ties_of_third", defArgs (top 57), defBody (top 57), defScope (top 57), [], []⟩
def d_steps_of : He.DefD := ⟨("steps_of", none), "steps_of", "steps_of", defArgs (top 58), defBody (top 58), defScope (top 58), [], []⟩
def d_holds_by : He.DefD := ⟨("holds_by", none), "holds_by", "holds_by", defArgs (top 59), defBody (top 59), defScope (top 59), [], []⟩
def d_answer : He.DefD := ⟨("answer", none), "answer", "answer", defArgs (top 60), defBody (top 60), defScope (top 60), [], []⟩
def d_law_jar : He.DefD := ⟨("_law_jar", none), "_law_jar", "_law_jar", defArgs (top 62), defBody (top 62), defScope (top 62), [], []⟩
def d_law_draw : He.DefD := ⟨("_law_draw", none), "_law_draw", "_law_draw", defArgs (top 63), defBody (top 63), defScope (top 63), [], []⟩
def d_law_pick : He.DefD := ⟨("_law_pick", none), "_law_pick", "_law_pick", defArgs (top 64), defBody (top 64), defScope (top 64), [], []⟩
def d_law_bit : He.DefD := ⟨("_law_bit", none), "_law_bit", "_law_bit", defArgs (top 65), defBody (top 65), defScope (top 65), [], []⟩
def d_law_town : He.DefD := ⟨("_law_town", none), "_law_town", "_law_town", defArgs (top 66), defBody (top 66), defScope (top 66), [], []⟩
def d_law_size : He.DefD := ⟨("_law_size", none), "_law_size", "_law_size", defArgs (top 67), defBody (top 67), defScope (top 67), [], []⟩
def d_law_text : He.DefD := ⟨("_law_text", none), "_law_text", "_law_text", defArgs (top 68), defBody (top 68), defScope (top 68), [], []⟩
def d_law_atom : He.DefD := ⟨("_law_atom", none), "_law_atom", "_law_atom", defArgs (top 69), defBody (top 69), defScope (top 69), [], []⟩
def d_law_question : He.DefD := ⟨("_law_question", none), "_law_question", "_law_question", defArgs (top 70), defBody (top 70), defScope (top 70), [], []⟩
def d_law_holds : He.DefD := ⟨("_law_holds", none), "_law_holds", "_law_holds", defArgs (top 71), defBody (top 71), defScope (top 71), [], []⟩
def d_law_rows : He.DefD := ⟨("_law_rows", none), "_law_rows", "_law_rows", defArgs (top 72), defBody (top 72), defScope (top 72), [], []⟩
def d_law_copies : He.DefD := ⟨("_law_copies", none), "_law_copies", "_law_copies", defArgs (top 73), defBody (top 73), defScope (top 73), [], []⟩
def d_lawfn : He.DefD := ⟨("law", none), "law", "law", defArgs (top 74), defBody (top 74), defScope (top 74), [], []⟩
def x_is_done : He.DefD := ⟨("Scan", some "is_done"), "is_done", "Scan.is_done", defArgs (inC 18 1), defBody (inC 18 1), defScope (inC 18 1), [], []⟩
def x_ahead : He.DefD := ⟨("Scan", some "ahead"), "ahead", "Scan.ahead", defArgs (inC 18 2), defBody (inC 18 2), defScope (inC 18 2), [], []⟩
def x_take : He.DefD := ⟨("Scan", some "take"), "take", "Scan.take", defArgs (inC 18 5), defBody (inC 18 5), defScope (inC 18 5), [], []⟩
def x_take_one_of : He.DefD := ⟨("Scan", some "take_one_of"), "take_one_of", "Scan.take_one_of", defArgs (inC 18 7), defBody (inC 18 7), defScope (inC 18 7), [], []⟩
def x_finish : He.DefD := ⟨("Scan", some "finish"), "finish", "Scan.finish", defArgs (inC 18 10), defBody (inC 18 10), defScope (inC 18 10), [], []⟩
def x_negated : He.DefD := ⟨("Question", some "negated"), "negated", "Question.negated", defArgs (inC 35 2), defBody (inC 35 2), defScope (inC 35 2), [], []⟩
def x_both : He.DefD := ⟨("Question", some "both"), "both", "Question.both", defArgs (inC 35 3), defBody (inC 35 3), defScope (inC 35 3), [], []⟩
def x_either : He.DefD := ⟨("Question", some "either"), "either", "Question.either", defArgs (inC 35 4), defBody (inC 35 4), defScope (inC 35 4), [], []⟩
def x_init_Scan : He.DefD := ⟨("Scan", some "__init__"), "__init__", "Scan.__init__", defArgs (inC 18 0), defBody (inC 18 0), defScope (inC 18 0), [], []⟩
def x_init_Question : He.DefD := ⟨("Question", some "__init__"), "__init__", "Question.__init__", defArgs (inC 35 0), defBody (inC 35 0), defScope (inC 35 0), [], []⟩
def x_init_Town : He.DefD := ⟨("Town", some "__init__"), "__init__", "Town.__init__", defArgs (inC 41 0), defBody (inC 41 0), defScope (inC 41 0), [.adr dTn], []⟩
def fnH0 : List He.DefD := [d_is_integer, d_is_within, d_are_integers, d_is_lot, d_fixed, d_need_question, d_need_closed, d_take_root, d_items_of, d_free_of, d_looks_of, d_need_town, d_is_pair, d_are_pairs, d_friends_in, d_is_so, d_holds, d_masks_of, d_sight_of, d_views_in, d_views_of_town, d_are_unlike, d_is_sight, d_is_view, d_are_views, d_ties_of_third, d_steps_of, d_holds_by, d_answer, d_law_jar]
def fnH1 : List He.DefD := [d_law_draw, d_law_pick, d_law_bit, d_law_town, d_law_size, d_law_text, d_law_atom, d_law_question, d_law_holds, d_law_rows, d_law_copies, d_lawfn, x_is_done, x_ahead, x_take, x_take_one_of, x_finish, x_negated, x_both, x_either, x_init_Scan, x_init_Question, x_init_Town]
def fnH : List He.DefD := fnH0 ++ fnH1
def faH0 : List He.Fa := [.free "isinstance", .free "len", .free "all", .free "sum", .free "max", .free "min", .free "abs", .free "sorted", .free "int", .free "bool", .free "str", .free "list", .free "tuple", .free "set", .free "range", .free "enumerate", .free "zip", .int "MOST_ITEMS" 40, .int "MOST_LOOKS" 3, .int "LEAST_ITEMS" 3, .int "MOST_THINGS" 40, .int "MOST_VIEWS" 40, .int "MANY_THIRDS" 4, .str "NEGATION" "not", .glo "NAMES", .glo "PLAIN", .glo "JOINED", .glo "LOOKS", .glo "NOBODY", .glo "NEEDED"]
def faH1 : List He.Fa := [.glo "is_integer", .glo "is_within", .glo "are_integers", .glo "is_lot", .glo "fixed", .glo "need_question", .glo "need_closed", .glo "take_root", .glo "items_of", .glo "free_of", .glo "looks_of", .glo "need_town", .glo "is_pair", .glo "are_pairs", .glo "friends_in", .glo "is_so", .glo "holds", .glo "masks_of", .glo "sight_of", .glo "views_in", .glo "views_of_town", .glo "are_unlike", .glo "is_sight", .glo "is_view", .glo "are_views", .glo "ties_of_third", .glo "steps_of", .glo "holds_by", .glo "answer", .glo "_law_jar"]
def faH2 : List He.Fa := [.glo "_law_draw", .glo "_law_pick", .glo "_law_bit", .glo "_law_town", .glo "_law_size", .glo "_law_text", .glo "_law_atom", .glo "_law_question", .glo "_law_holds", .glo "_law_rows", .glo "_law_copies", .glo "law", .glo "Scan", .cls "Scan", .mkr "Scan", .glo "Question", .cls "Question", .mkr "Question", .glo "Town", .cls "Town", .mkr "Town", .meth "Scan" "is_done", .meth "Scan" "ahead", .meth "Scan" "take", .meth "Scan" "take_one_of", .meth "Scan" "finish", .meth "Question" "negated", .meth "Question" "both", .meth "Question" "either", .noat "Scan" "told"]
def faH3 : List He.Fa := [.noat "Scan" "at", .noat "Question" "root", .noat "Question" "text", .noat "Question" "free", .noat "Question" "looks", .noat "Question" "is_closed", .noat "Town" "things", .noat "Town" "ties"]
def faH : List He.Fa := faH0 ++ faH1 ++ faH2 ++ faH3
def looseH0 : List PySem.Str := ["_wall", "__name__", "ThinError", "BadLot", "BadQuestion", "BadTown", "Misfit", "Twice", "TooMany", "BadText", "is_integer", "is_within", "are_integers", "is_lot", "fixed", "Scan", "MOST_ITEMS", "MOST_LOOKS", "LEAST_ITEMS", "NAMES", "PLAIN", "JOINED", "LOOKS", "NEGATION", "NEEDED", "need_question", "need_closed", "take_root", "items_of", "free_of"]
def looseH1 : List PySem.Str := ["looks_of", "Question", "MOST_THINGS", "need_town", "is_pair", "are_pairs", "Town", "friends_in", "is_so", "holds", "MOST_VIEWS", "MANY_THIRDS", "masks_of", "sight_of", "views_in", "views_of_town", "are_unlike", "is_sight", "is_view", "are_views", "NOBODY", "ties_of_third", "steps_of", "holds_by", "answer", "_law_jar", "_law_draw", "_law_pick", "_law_bit", "_law_town"]
def looseH2 : List PySem.Str := ["_law_size", "_law_text", "_law_atom", "_law_question", "_law_holds", "_law_rows", "_law_copies"]
def looseH : List PySem.Str := looseH0 ++ looseH1 ++ looseH2
def needKs : List PySem.Str := ["tied", "same", "not", "and", "or", "some", "all"]
def tabsH : List He.Tab := [(fun K => He.ga K "NEEDED", needKs)]
/-- a tuple at an address -/
def tupAt (K : PySem.W.Frag) (a : Addr) (us : List He.Dv) : Bool := match K.lookup a with
  | some ⟨.type g, _, .seq ys _, _⟩ => decide (g = "tuple") && (decide (ys.size ≤ sizeLine) && He.relAll (us.map (He.Dv.v K)) ys.toList)
  | _ => false
theorem tupAt_ok {K : PySem.W.Frag} {a : Addr} {us : List He.Dv} (h : tupAt K a us = true) (H : Hp) : SqT K H a (us.map (He.Dv.v K)) := by
  unfold tupAt at h
  cases e : K.lookup a with
  | none => rw [e] at h; cases h
  | some ob =>
    obtain ⟨kc, kd, kt, ks⟩ := ob
    rw [e] at h
    cases kc with
    | type g =>
      cases kt with
      | seq ys m =>
        obtain ⟨z1, z⟩ := He.ba (show (decide (g = "tuple") && (decide (ys.size ≤ sizeLine) && He.relAll (us.map (He.Dv.v K)) ys.toList)) = true from h)
        obtain ⟨z2, z3⟩ := He.ba z
        exact .inr ⟨_, ys, m, e, congrArg Value.type (of_decide_eq_true z1), rfl, of_decide_eq_true z2, He.relAll_ok z3⟩
      | _ => cases h
    | _ => cases kt <;> cases h
/-- the item of NOBODY that is a tuple -/
def nobE (K : PySem.W.Frag) : Addr := match K.lookup (He.ga K "NOBODY") with
  | some ⟨_, _, .seq ys _, _⟩ => (match ys.getD 2 .none with
    | .ref a => a
    | _ => 0)
  | _ => 0
def insB (K : PySem.W.Frag) (C : Addr) : Bool := He.eqO (PySem.W.findIn K (.ref C) "__class__") (some (some (.builtin "object.__class__"))) &&
  (He.eqO (PySem.W.specialIn K (.builtin "object.__class__") "__get__") (some (some (.builtin "getset_descriptor.__get__"))) &&
  (decide (PySem.W.takesIn K (.builtin "object.__class__") = some true) && (decide (PySem.W.mroIn K C (.type "object") = some true) && decide (PySem.W.kitOne K (.ref C) (.ref C) = some true))))
def readD : He5.DefA := { at_ := fun K => He5.wf K (He.ga K "Question") "staticmethod" "read", name := "read", qual := "Question.read", params := defArgs (inC 35 1), body := defBody (inC 35 1), scope := defScope (inC 35 1) }
def needVs : List (PySem.Str × He.Dv) := [("tied", .int 2), ("same", .int 2), ("not", .int 3), ("and", .int 6), ("or", .int 6), ("some", .int 4), ("all", .int 4)]
def exH (K : PySem.W.Frag) : Bool :=
  (tupAt K (He.ga K "NAMES") [.str "x", .str "y", .str "z"] && tupAt K (He.ga K "PLAIN") [.str "tied", .str "same"]) &&
  ((tupAt K (He.ga K "JOINED") [.str "and", .str "or"] && tupAt K (He.ga K "LOOKS") [.str "some", .str "all"]) &&
  ((tupAt K (He.ga K "NOBODY") [.non, .non, .adr nobE] && tupAt K (nobE K) []) &&
  ((tupAt K (dTn K) [] && He.valsB K (He.ga K "NEEDED") needVs) &&
  ((insB K (He.ga K "Question") && insB K (He.ga K "Town")) &&
  ((He5.wrapB K (He.ga K "Question") "staticmethod" "staticmethod.__get__" "read" && readD.ok K) &&
  (PySem.W.readsIn K (He.ga K "Question") (.type "type") && (He.eqO (PySem.W.specialIn K (.ref (He.ga K "Question")) "__getattribute__") (some (some (.builtin "type.__getattribute__"))) && PySem.W.keepIn K (.ref (readD.at_ K)))))))))
/-- the objects that one step leads to -/
def stepA (g : Addr → Option Obj) (as : List Addr) : List Addr := as.flatMap fun a => match g a with
  | some o => He.refsD o
  | none => []
def isTab (g : Addr → Option Obj) (a : Addr) : Bool := match g a with
  | some ⟨_, _, .dict _ _, _⟩ => true
  | _ => false
def isDef (g : Addr → Option Obj) (a : Addr) : Bool := match g a with
  | some ⟨_, _, .func _, _⟩ => true
  | some ⟨_, _, .seq _ _, _⟩ => true
  | _ => false
def asK (g : Addr → Option Obj) : List Addr :=
  let l1 := stepA g [mainGlobals]
  let l2 := stepA g l1
  let l3 := stepA g (l2.filter (isTab g))
  let l4 := stepA g l3
  let l5 := stepA g (l4.filter (isDef g))
  mainGlobals :: cStatics :: (l1 ++ (l2 ++ (l3 ++ (l4 ++ l5))))
abbrev AlK : Type := He.AlT × (Bool × He.FnW)
def obsK (g : Addr → Option Obj) : AlK := (He.obsT faH fnH tabsH (He.frG g (asK g)), exH (He.frG g (asK g)), He5.fnA (He.frG g (asK g)) (readD.at_ (He.frG g (asK g))))
structure SaysK (w : World) (K : PySem.W.Frag) : Prop where
  t : He.SaysT faH fnH tabsH w K
  ex : exH K = true
  rd : He5.fnA K (readD.at_ K) = readD.val
def hookK : PySem.W.Hook where
  α := AlK
  obs := fun s => obsK s.heap.get?
  val := fun w => (He.valT fnH tabsH w, true, readD.val)
  says := fun w h => ∃ K : PySem.W.Frag, K.In h ∧ SaysK w K
  of := fun _ _ e => ⟨_, He.frG_in, ⟨congrArg (fun z : AlK => z.1) e, congrArg (fun z : AlK => z.2.1) e, congrArg (fun z : AlK => z.2.2) e⟩⟩
  keeps := fun _ _ _ ⟨K, hK, c⟩ k => ⟨K, PySem.W.Frag.In.keeps hK k, c⟩
def obH (s : PySem.W.SharedT) : AlK := obsK (HandSHeadRun.getT s)
theorem obH_eq (s : PySem.W.SharedT) : obH s = hookK.obs s.abs := by
  have e : HandSHeadRun.getT s = s.abs.heap.get? := funext (HandSHeadRun.getT_eq s)
  unfold obH
  rw [e] <;> rfl
abbrev RH : PySem.W.OpenRow := PySem.W.OpenLaw.row PySem.Challenge.rw_thincoins_k61_whole_towns_answer_as_thei
end K61

end

section
set_option linter.all false
set_option maxRecDepth 100000
set_option maxHeartbeats 0
/-! K61, the head: the run of the top. -/
namespace K61
open PySem PySem.Spec PyProof.Rows L2
theorem runH (w : World) : HandSHeadRun.RunEq RH (PySem.W.view RH.prog [74]) hookK obH 6000 looseH w := PySem.W.byRow2 "special-get-raises" (fun w => by intro os; kernel_rfl) (fun w => by intro os; kernel_rfl) w
end K61

end

section
set_option linter.all false
set_option maxRecDepth 100000
set_option maxHeartbeats 4000000
/-! K61: what the head tells, as the walks want it. -/
namespace K61
open PySem PySem.Spec PyProof.Rows L2
section
variable {w : World} {K : PySem.W.Frag} {h : Heap} {mg : Str → Option Value}
theorem ev_of (X : K.In h) (G : h.Ns mainGlobals mg) (S : SaysK w K) : Ev w K mg (He.ga K "Scan") (He.ga K "Question") (He.ga K "Town") := by
  have c := S.t.d
  obtain ⟨ab, a3⟩ := He.ba (show (_ && _) = true from S.ex)
  obtain ⟨xNAMES, xPLAIN⟩ := He.ba ab
  obtain ⟨ab, a4⟩ := He.ba a3
  obtain ⟨xJOINED, xLOOKS⟩ := He.ba ab
  obtain ⟨ab, a5⟩ := He.ba a4
  obtain ⟨xNOBODY, xnobE⟩ := He.ba ab
  obtain ⟨ab, a6⟩ := He.ba a5
  obtain ⟨xdTn, xNEEDED⟩ := He.ba ab
  obtain ⟨ab, a7⟩ := He.ba a6
  obtain ⟨xinsQ, xinsT⟩ := He.ba ab
  obtain ⟨ab, a8⟩ := He.ba a7
  obtain ⟨xwrap, xrd⟩ := He.ba ab
  obtain ⟨xreads, a9⟩ := He.ba a8
  obtain ⟨xga, xkp⟩ := He.ba a9
  have glo : ∀ {x : Str}, He.Fa.glo x ∈ faH → mg x = some (.ref (He.ga K x)) := fun hx => He.glo_ok X G (He.SaysD.facts c hx)
  have tup : ∀ {x : Str} {us : List He.Dv}, tupAt K (He.ga K x) us = true → ∀ H, SqT K H (He.ga K x) (us.map (He.Dv.v K)) := fun h H => tupAt_ok h H
  have insc : ∀ {x : Str}, Cls K (He.ga K x) → insB K (He.ga K x) = true → C8.InsC K (He.ga K x) := fun {x} hc h => by
    obtain ⟨h1, h⟩ := He.ba (show (_ && _) = true from h)
    obtain ⟨h2, h⟩ := He.ba h
    obtain ⟨h3, h⟩ := He.ba h
    obtain ⟨h4, h5⟩ := He.ba h
    exact ⟨hc, He.eqO_ok h1, He.eqO_ok h2, of_decide_eq_true h3, of_decide_eq_true h4, of_decide_eq_true h5⟩
  obtain ⟨f_d_is_integer, F_d_is_integer⟩ := c.def_ 0 (d := d_is_integer) rfl
  obtain ⟨f_d_is_within, F_d_is_within⟩ := c.def_ 1 (d := d_is_within) rfl
  obtain ⟨f_d_are_integers, F_d_are_integers⟩ := c.def_ 2 (d := d_are_integers) rfl
  obtain ⟨f_d_is_lot, F_d_is_lot⟩ := c.def_ 3 (d := d_is_lot) rfl
  obtain ⟨f_d_fixed, F_d_fixed⟩ := c.def_ 4 (d := d_fixed) rfl
  obtain ⟨f_d_need_question, F_d_need_question⟩ := c.def_ 5 (d := d_need_question) rfl
  obtain ⟨f_d_need_closed, F_d_need_closed⟩ := c.def_ 6 (d := d_need_closed) rfl
  obtain ⟨f_d_take_root, F_d_take_root⟩ := c.def_ 7 (d := d_take_root) rfl
  obtain ⟨f_d_items_of, F_d_items_of⟩ := c.def_ 8 (d := d_items_of) rfl
  obtain ⟨f_d_free_of, F_d_free_of⟩ := c.def_ 9 (d := d_free_of) rfl
  obtain ⟨f_d_looks_of, F_d_looks_of⟩ := c.def_ 10 (d := d_looks_of) rfl
  obtain ⟨f_d_need_town, F_d_need_town⟩ := c.def_ 11 (d := d_need_town) rfl
  obtain ⟨f_d_is_pair, F_d_is_pair⟩ := c.def_ 12 (d := d_is_pair) rfl
  obtain ⟨f_d_are_pairs, F_d_are_pairs⟩ := c.def_ 13 (d := d_are_pairs) rfl
  obtain ⟨f_d_friends_in, F_d_friends_in⟩ := c.def_ 14 (d := d_friends_in) rfl
  obtain ⟨f_d_is_so, F_d_is_so⟩ := c.def_ 15 (d := d_is_so) rfl
  obtain ⟨f_d_holds, F_d_holds⟩ := c.def_ 16 (d := d_holds) rfl
  obtain ⟨f_d_masks_of, F_d_masks_of⟩ := c.def_ 17 (d := d_masks_of) rfl
  obtain ⟨f_d_sight_of, F_d_sight_of⟩ := c.def_ 18 (d := d_sight_of) rfl
  obtain ⟨f_d_views_in, F_d_views_in⟩ := c.def_ 19 (d := d_views_in) rfl
  obtain ⟨f_d_views_of_town, F_d_views_of_town⟩ := c.def_ 20 (d := d_views_of_town) rfl
  obtain ⟨f_d_are_unlike, F_d_are_unlike⟩ := c.def_ 21 (d := d_are_unlike) rfl
  obtain ⟨f_d_is_sight, F_d_is_sight⟩ := c.def_ 22 (d := d_is_sight) rfl
  obtain ⟨f_d_is_view, F_d_is_view⟩ := c.def_ 23 (d := d_is_view) rfl
  obtain ⟨f_d_are_views, F_d_are_views⟩ := c.def_ 24 (d := d_are_views) rfl
  obtain ⟨f_d_ties_of_third, F_d_ties_of_third⟩ := c.def_ 25 (d := d_ties_of_third) rfl
  obtain ⟨f_d_steps_of, F_d_steps_of⟩ := c.def_ 26 (d := d_steps_of) rfl
  obtain ⟨f_d_holds_by, F_d_holds_by⟩ := c.def_ 27 (d := d_holds_by) rfl
  obtain ⟨f_d_answer, F_d_answer⟩ := c.def_ 28 (d := d_answer) rfl
  obtain ⟨f_d_law_jar, F_d_law_jar⟩ := c.def_ 29 (d := d_law_jar) rfl
  obtain ⟨f_d_law_draw, F_d_law_draw⟩ := c.def_ 30 (d := d_law_draw) rfl
  obtain ⟨f_d_law_pick, F_d_law_pick⟩ := c.def_ 31 (d := d_law_pick) rfl
  obtain ⟨f_d_law_bit, F_d_law_bit⟩ := c.def_ 32 (d := d_law_bit) rfl
  obtain ⟨f_d_law_town, F_d_law_town⟩ := c.def_ 33 (d := d_law_town) rfl
  obtain ⟨f_d_law_size, F_d_law_size⟩ := c.def_ 34 (d := d_law_size) rfl
  obtain ⟨f_d_law_text, F_d_law_text⟩ := c.def_ 35 (d := d_law_text) rfl
  obtain ⟨f_d_law_atom, F_d_law_atom⟩ := c.def_ 36 (d := d_law_atom) rfl
  obtain ⟨f_d_law_question, F_d_law_question⟩ := c.def_ 37 (d := d_law_question) rfl
  obtain ⟨f_d_law_holds, F_d_law_holds⟩ := c.def_ 38 (d := d_law_holds) rfl
  obtain ⟨f_d_law_rows, F_d_law_rows⟩ := c.def_ 39 (d := d_law_rows) rfl
  obtain ⟨f_d_law_copies, F_d_law_copies⟩ := c.def_ 40 (d := d_law_copies) rfl
  obtain ⟨f_d_lawfn, F_d_lawfn⟩ := c.def_ 41 (d := d_lawfn) rfl
  obtain ⟨f_x_is_done, F_x_is_done⟩ := c.def_ 42 (d := x_is_done) rfl
  obtain ⟨f_x_ahead, F_x_ahead⟩ := c.def_ 43 (d := x_ahead) rfl
  obtain ⟨f_x_take, F_x_take⟩ := c.def_ 44 (d := x_take) rfl
  obtain ⟨f_x_take_one_of, F_x_take_one_of⟩ := c.def_ 45 (d := x_take_one_of) rfl
  obtain ⟨f_x_finish, F_x_finish⟩ := c.def_ 46 (d := x_finish) rfl
  obtain ⟨f_x_negated, F_x_negated⟩ := c.def_ 47 (d := x_negated) rfl
  obtain ⟨f_x_both, F_x_both⟩ := c.def_ 48 (d := x_both) rfl
  obtain ⟨f_x_either, F_x_either⟩ := c.def_ 49 (d := x_either) rfl
  obtain ⟨f_x_init_Scan, F_x_init_Scan⟩ := c.def_ 50 (d := x_init_Scan) rfl
  obtain ⟨f_x_init_Question, F_x_init_Question⟩ := c.def_ 51 (d := x_init_Question) rfl
  obtain ⟨f_x_init_Town, F_x_init_Town⟩ := c.def_ 52 (d := x_init_Town) rfl
  refine {
    n_isinstance := He.free_ok X G (c.fact 0 (f := .free "isinstance") rfl),
    n_len := He.free_ok X G (c.fact 1 (f := .free "len") rfl),
    n_all := He.free_ok X G (c.fact 2 (f := .free "all") rfl),
    n_sum := He.free_ok X G (c.fact 3 (f := .free "sum") rfl),
    n_max := He.free_ok X G (c.fact 4 (f := .free "max") rfl),
    n_min := He.free_ok X G (c.fact 5 (f := .free "min") rfl),
    n_abs := He.free_ok X G (c.fact 6 (f := .free "abs") rfl),
    n_sorted := He.free_ok X G (c.fact 7 (f := .free "sorted") rfl),
    n_int := He.free_ok X G (c.fact 8 (f := .free "int") rfl),
    n_bool := He.free_ok X G (c.fact 9 (f := .free "bool") rfl),
    n_str := He.free_ok X G (c.fact 10 (f := .free "str") rfl),
    n_list := He.free_ok X G (c.fact 11 (f := .free "list") rfl),
    n_tuple := He.free_ok X G (c.fact 12 (f := .free "tuple") rfl),
    n_set := He.free_ok X G (c.fact 13 (f := .free "set") rfl),
    n_range := He.free_ok X G (c.fact 14 (f := .free "range") rfl),
    n_enumerate := He.free_ok X G (c.fact 15 (f := .free "enumerate") rfl),
    n_zip := He.free_ok X G (c.fact 16 (f := .free "zip") rfl),
    i_MOST_ITEMS := He.int_ok X G (c.fact 17 (f := .int "MOST_ITEMS" 40) rfl),
    i_MOST_LOOKS := He.int_ok X G (c.fact 18 (f := .int "MOST_LOOKS" 3) rfl),
    i_LEAST_ITEMS := He.int_ok X G (c.fact 19 (f := .int "LEAST_ITEMS" 3) rfl),
    i_MOST_THINGS := He.int_ok X G (c.fact 20 (f := .int "MOST_THINGS" 40) rfl),
    i_MOST_VIEWS := He.int_ok X G (c.fact 21 (f := .int "MOST_VIEWS" 40) rfl),
    i_MANY_THIRDS := He.int_ok X G (c.fact 22 (f := .int "MANY_THIRDS" 4) rfl),
    s_NEGATION := He.str_ok X G (c.fact 23 (f := .str "NEGATION" "not") rfl),
    t_NAMES := ⟨_, (He.glo_ok X G (c.fact 24 (f := .glo "NAMES") rfl)), fun H => tupAt_ok xNAMES H⟩,
    t_PLAIN := ⟨_, (He.glo_ok X G (c.fact 25 (f := .glo "PLAIN") rfl)), fun H => tupAt_ok xPLAIN H⟩,
    t_JOINED := ⟨_, (He.glo_ok X G (c.fact 26 (f := .glo "JOINED") rfl)), fun H => tupAt_ok xJOINED H⟩,
    t_LOOKS := ⟨_, (He.glo_ok X G (c.fact 27 (f := .glo "LOOKS") rfl)), fun H => tupAt_ok xLOOKS H⟩,
    t_NOBODY := ⟨_, nobE K, (He.glo_ok X G (c.fact 28 (f := .glo "NOBODY") rfl)), fun H => tupAt_ok xNOBODY H, fun H => tupAt_ok xnobE H⟩,
    d_NEEDED := ?needed,
    d_is_integer := ⟨_, f_d_is_integer, F_d_is_integer, (He.glo_ok X G (c.fact 30 (f := .glo "is_integer") rfl))⟩,
    d_is_within := ⟨_, f_d_is_within, F_d_is_within, (He.glo_ok X G (c.fact 31 (f := .glo "is_within") rfl))⟩,
    d_are_integers := ⟨_, f_d_are_integers, F_d_are_integers, (He.glo_ok X G (c.fact 32 (f := .glo "are_integers") rfl))⟩,
    d_is_lot := ⟨_, f_d_is_lot, F_d_is_lot, (He.glo_ok X G (c.fact 33 (f := .glo "is_lot") rfl))⟩,
    d_fixed := ⟨_, f_d_fixed, F_d_fixed, (He.glo_ok X G (c.fact 34 (f := .glo "fixed") rfl))⟩,
    d_need_question := ⟨_, f_d_need_question, F_d_need_question, (He.glo_ok X G (c.fact 35 (f := .glo "need_question") rfl))⟩,
    d_need_closed := ⟨_, f_d_need_closed, F_d_need_closed, (He.glo_ok X G (c.fact 36 (f := .glo "need_closed") rfl))⟩,
    d_take_root := ⟨_, f_d_take_root, F_d_take_root, (He.glo_ok X G (c.fact 37 (f := .glo "take_root") rfl))⟩,
    d_items_of := ⟨_, f_d_items_of, F_d_items_of, (He.glo_ok X G (c.fact 38 (f := .glo "items_of") rfl))⟩,
    d_free_of := ⟨_, f_d_free_of, F_d_free_of, (He.glo_ok X G (c.fact 39 (f := .glo "free_of") rfl))⟩,
    d_looks_of := ⟨_, f_d_looks_of, F_d_looks_of, (He.glo_ok X G (c.fact 40 (f := .glo "looks_of") rfl))⟩,
    d_need_town := ⟨_, f_d_need_town, F_d_need_town, (He.glo_ok X G (c.fact 41 (f := .glo "need_town") rfl))⟩,
    d_is_pair := ⟨_, f_d_is_pair, F_d_is_pair, (He.glo_ok X G (c.fact 42 (f := .glo "is_pair") rfl))⟩,
    d_are_pairs := ⟨_, f_d_are_pairs, F_d_are_pairs, (He.glo_ok X G (c.fact 43 (f := .glo "are_pairs") rfl))⟩,
    d_friends_in := ⟨_, f_d_friends_in, F_d_friends_in, (He.glo_ok X G (c.fact 44 (f := .glo "friends_in") rfl))⟩,
    d_is_so := ⟨_, f_d_is_so, F_d_is_so, (He.glo_ok X G (c.fact 45 (f := .glo "is_so") rfl))⟩,
    d_holds := ⟨_, f_d_holds, F_d_holds, (He.glo_ok X G (c.fact 46 (f := .glo "holds") rfl))⟩,
    d_masks_of := ⟨_, f_d_masks_of, F_d_masks_of, (He.glo_ok X G (c.fact 47 (f := .glo "masks_of") rfl))⟩,
    d_sight_of := ⟨_, f_d_sight_of, F_d_sight_of, (He.glo_ok X G (c.fact 48 (f := .glo "sight_of") rfl))⟩,
    d_views_in := ⟨_, f_d_views_in, F_d_views_in, (He.glo_ok X G (c.fact 49 (f := .glo "views_in") rfl))⟩,
    d_views_of_town := ⟨_, f_d_views_of_town, F_d_views_of_town, (He.glo_ok X G (c.fact 50 (f := .glo "views_of_town") rfl))⟩,
    d_are_unlike := ⟨_, f_d_are_unlike, F_d_are_unlike, (He.glo_ok X G (c.fact 51 (f := .glo "are_unlike") rfl))⟩,
    d_is_sight := ⟨_, f_d_is_sight, F_d_is_sight, (He.glo_ok X G (c.fact 52 (f := .glo "is_sight") rfl))⟩,
    d_is_view := ⟨_, f_d_is_view, F_d_is_view, (He.glo_ok X G (c.fact 53 (f := .glo "is_view") rfl))⟩,
    d_are_views := ⟨_, f_d_are_views, F_d_are_views, (He.glo_ok X G (c.fact 54 (f := .glo "are_views") rfl))⟩,
    d_ties_of_third := ⟨_, f_d_ties_of_third, F_d_ties_of_third, (He.glo_ok X G (c.fact 55 (f := .glo "ties_of_third") rfl))⟩,
    d_steps_of := ⟨_, f_d_steps_of, F_d_steps_of, (He.glo_ok X G (c.fact 56 (f := .glo "steps_of") rfl))⟩,
    d_holds_by := ⟨_, f_d_holds_by, F_d_holds_by, (He.glo_ok X G (c.fact 57 (f := .glo "holds_by") rfl))⟩,
    d_answer := ⟨_, f_d_answer, F_d_answer, (He.glo_ok X G (c.fact 58 (f := .glo "answer") rfl))⟩,
    d_law_jar := ⟨_, f_d_law_jar, F_d_law_jar, (He.glo_ok X G (c.fact 59 (f := .glo "_law_jar") rfl))⟩,
    d_law_draw := ⟨_, f_d_law_draw, F_d_law_draw, (He.glo_ok X G (c.fact 60 (f := .glo "_law_draw") rfl))⟩,
    d_law_pick := ⟨_, f_d_law_pick, F_d_law_pick, (He.glo_ok X G (c.fact 61 (f := .glo "_law_pick") rfl))⟩,
    d_law_bit := ⟨_, f_d_law_bit, F_d_law_bit, (He.glo_ok X G (c.fact 62 (f := .glo "_law_bit") rfl))⟩,
    d_law_town := ⟨_, f_d_law_town, F_d_law_town, (He.glo_ok X G (c.fact 63 (f := .glo "_law_town") rfl))⟩,
    d_law_size := ⟨_, f_d_law_size, F_d_law_size, (He.glo_ok X G (c.fact 64 (f := .glo "_law_size") rfl))⟩,
    d_law_text := ⟨_, f_d_law_text, F_d_law_text, (He.glo_ok X G (c.fact 65 (f := .glo "_law_text") rfl))⟩,
    d_law_atom := ⟨_, f_d_law_atom, F_d_law_atom, (He.glo_ok X G (c.fact 66 (f := .glo "_law_atom") rfl))⟩,
    d_law_question := ⟨_, f_d_law_question, F_d_law_question, (He.glo_ok X G (c.fact 67 (f := .glo "_law_question") rfl))⟩,
    d_law_holds := ⟨_, f_d_law_holds, F_d_law_holds, (He.glo_ok X G (c.fact 68 (f := .glo "_law_holds") rfl))⟩,
    d_law_rows := ⟨_, f_d_law_rows, F_d_law_rows, (He.glo_ok X G (c.fact 69 (f := .glo "_law_rows") rfl))⟩,
    d_law_copies := ⟨_, f_d_law_copies, F_d_law_copies, (He.glo_ok X G (c.fact 70 (f := .glo "_law_copies") rfl))⟩,
    m_is_done := ⟨_, f_x_is_done, F_x_is_done, He.meth_ok (c.fact 81 (f := .meth "Scan" "is_done") rfl)⟩,
    m_ahead := ⟨_, f_x_ahead, F_x_ahead, He.meth_ok (c.fact 82 (f := .meth "Scan" "ahead") rfl)⟩,
    m_take := ⟨_, f_x_take, F_x_take, He.meth_ok (c.fact 83 (f := .meth "Scan" "take") rfl)⟩,
    m_take_one_of := ⟨_, f_x_take_one_of, F_x_take_one_of, He.meth_ok (c.fact 84 (f := .meth "Scan" "take_one_of") rfl)⟩,
    m_finish := ⟨_, f_x_finish, F_x_finish, He.meth_ok (c.fact 85 (f := .meth "Scan" "finish") rfl)⟩,
    m_negated := ⟨_, f_x_negated, F_x_negated, He.meth_ok (c.fact 86 (f := .meth "Question" "negated") rfl)⟩,
    m_both := ⟨_, f_x_both, F_x_both, He.meth_ok (c.fact 87 (f := .meth "Question" "both") rfl)⟩,
    m_either := ⟨_, f_x_either, F_x_either, He.meth_ok (c.fact 88 (f := .meth "Question" "either") rfl)⟩,
    m_Scan := ⟨⟨_, f_x_init_Scan, F_x_init_Scan, He.mkr_ok (c.fact 74 (f := .mkr "Scan") rfl)⟩, (He.glo_ok X G (c.fact 72 (f := .glo "Scan") rfl)), (He.cls_ok (c.fact 73 (f := .cls "Scan") rfl))⟩,
    m_Question := ⟨⟨_, f_x_init_Question, F_x_init_Question, He.mkr_ok (c.fact 77 (f := .mkr "Question") rfl)⟩, (He.glo_ok X G (c.fact 75 (f := .glo "Question") rfl)), (He.cls_ok (c.fact 76 (f := .cls "Question") rfl))⟩,
    m_Town := ⟨dTn K, tupAt_ok xdTn _, ⟨⟨_, f_x_init_Town, F_x_init_Town, He.mkr_ok (c.fact 80 (f := .mkr "Town") rfl)⟩, (He.glo_ok X G (c.fact 78 (f := .glo "Town") rfl)), (He.cls_ok (c.fact 79 (f := .cls "Town") rfl))⟩⟩,
    m_read := ?read,
    f_Scan := ?f_Scan,
    f_Question := ?f_Question,
    f_Town := ?f_Town,
    i_Question := insc (He.cls_ok (c.fact 76 (f := .cls "Question") rfl)) xinsQ,
    i_Town := insc (He.cls_ok (c.fact 79 (f := .cls "Town") rfl)) xinsT }
  case needed =>
    obtain ⟨es, n, hk⟩ := S.t.tab 0 (t := (fun K => He.ga K "NEEDED", needKs)) rfl
    refine ⟨_, es, n, (He.glo_ok X G (c.fact 29 (f := .glo "NEEDED") rfl)), hk, fun x i hx => ?_⟩
    have hq : (x, He.Dv.int i) ∈ needVs := by
      simp only [List.mem_cons, List.not_mem_nil, or_false, Prod.mk.injEq] at hx
      simp only [needVs, List.mem_cons, List.not_mem_nil, or_false, Prod.mk.injEq, He.Dv.int.injEq]
      exact hx
    obtain ⟨u, h1, h2⟩ := He.valsB_ok xNEEDED hq
    obtain ⟨t, rfl⟩ : ∃ t, u = .int i t := h2
    exact ⟨t, h1⟩
  case read =>
    obtain ⟨fd, FR⟩ := He5.DefA.funD (d := readD) S.rd xrd
    obtain ⟨w1, w2⟩ := He5.wrapB_ok xwrap
    exact ⟨_, _, fd, FR, ⟨xreads, He.eqO_ok xga, w1, w2, xkp⟩⟩
  case f_Scan =>
    intro f hf
    simp only [List.mem_cons, List.not_mem_nil, or_false] at hf
    rcases hf with rfl | rfl
    · exact He.noat_ok (c.fact 89 (f := .noat "Scan" "told") rfl)
    · exact He.noat_ok (c.fact 90 (f := .noat "Scan" "at") rfl)
  case f_Question =>
    intro f hf
    simp only [List.mem_cons, List.not_mem_nil, or_false] at hf
    rcases hf with rfl | rfl | rfl | rfl | rfl
    · exact He.noat_ok (c.fact 91 (f := .noat "Question" "root") rfl)
    · exact He.noat_ok (c.fact 92 (f := .noat "Question" "text") rfl)
    · exact He.noat_ok (c.fact 93 (f := .noat "Question" "free") rfl)
    · exact He.noat_ok (c.fact 94 (f := .noat "Question" "looks") rfl)
    · exact He.noat_ok (c.fact 95 (f := .noat "Question" "is_closed") rfl)
  case f_Town =>
    intro f hf
    simp only [List.mem_cons, List.not_mem_nil, or_false] at hf
    rcases hf with rfl | rfl
    · exact He.noat_ok (c.fact 96 (f := .noat "Town" "things") rfl)
    · exact He.noat_ok (c.fact 97 (f := .noat "Town" "ties") rfl)
end
end K61

end

set_option linter.all false
set_option maxRecDepth 100000
set_option maxHeartbeats 0
/-! K61: the end. -/
open PySem PySem.W PySem.Calls PyProof.Rows
theorem PySem.Challenge.cw_thincoins_k61_whole_towns_answer_as_thei_holds : PySem.Challenge.rw_thincoins_k61_whole_towns_answer_as_thei.Holds := by
  w_on; o_law
  refine HandSHeadRun.head_any (r := OpenLaw.row PySem.Challenge.rw_thincoins_k61_whole_towns_answer_as_thei) (q := view (OpenLaw.row PySem.Challenge.rw_thincoins_k61_whole_towns_answer_as_thei).prog [74]) (H := K61.hookK) (ob := K61.obH) (M := 6000) (loose := K61.looseH) (d := HandSHeadRun.topDef (OpenLaw.row PySem.Challenge.rw_thincoins_k61_whole_towns_answer_as_thei).prog 74) (kwd := []) K61.obH_eq
    (by kernel_rfl) (fun s => by kernel_rfl) K61.runH (by kernel_rfl) (by kernel_rfl) (by kernel_rfl) (by rfl) (by first | assumption | decide +kernel) (by decide +kernel) ⟨rfl, rfl, rfl, rfl, rfl, by decide +kernel⟩ ?hw ?hc
  case hw => w_witness2
  case hc =>
    refine L2.walk_ofE (l := PySem.Challenge.rw_thincoins_k61_whole_towns_answer_as_thei) (n := 63) (k := 120) (x := "_law_script") (CX := C8.CX0) rfl (by decide) (by kernel_rfl) ⟨rfl, by decide, by decide⟩ ?F (fun _ _ _ _ z => z)
    intro w mg fl h Y G hm0
    obtain ⟨K, KX, S⟩ := Y
    have hm : mg ("law" : PySem.Str) = some (.ref fl) := by
      have e : (HandSHeadRun.topDef (OpenLaw.row PySem.Challenge.rw_thincoins_k61_whole_towns_answer_as_thei).prog 74).name = ("law" : PySem.Str) := by kernel_rfl
      rw [← e]
      exact hm0
    obtain ⟨fd, F⟩ := S.t.d.def_ 41 (d := K61.d_lawfn) rfl
    have e := hm.symm.trans (He.glo_ok KX G (S.t.d.fact 71 (f := .glo "law") rfl))
    cases e
    have b := L2.FunD.bindsA (ps := ["_law_script"]) F fun _ _ _ _ _ _ us hl => match us, hl with | [_], _ => rfl
    exact ⟨K, fd, K61.spLaw K, KX, fun s v => b s [v] rfl, fun H a ns hl _ hS => ⟨a, ns, rfl, hS, hl, fun _ => rfl⟩, fun base _ _ => K61.law_ok (K61.ev_of KX G S) F⟩
