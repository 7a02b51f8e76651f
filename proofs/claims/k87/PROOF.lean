import PyProof.Rows.All
import Wide.All
import OpenK.AllK
import Wide.FinOn
import HandS.ForMost
import HandS.Deep
import HandS.TupAny
import HandS.Conv
import HandS.Codes
import HandS.IsInst
import HandS.Style
import HandS.TupMul
import HandS.Zip
import HandS.Strs
import HandS.SetKeys
import KE.GoesEnum
import HandS.SetFor
import HandS.SortInts
import HandS.Comp
import PySem.Challenge.RW_waypins_k87_whole_ways_that_no_meeting_t
section
set_option autoImplicit false
/-! WmA: boards, stands, beats: the program's own reckoning in plain Lean -/
namespace Wm

inductive Way where
  | left | right
  deriving DecidableEq
inductive Word where
  | ahead | behind
  deriving DecidableEq
def Way.flip : Way → Way
  | .left => .right
  | .right => .left
def Word.flip : Word → Word
  | .ahead => .behind
  | .behind => .ahead
@[simp] theorem Way.flip_flip (w : Way) : w.flip.flip = w := by cases w <;> rfl
@[simp] theorem Word.flip_flip (w : Word) : w.flip.flip = w := by cases w <;> rfl
structure Pin where
  x : Int
  y : Int
  way : Way
  deriving DecidableEq
structure Stand where
  own : Nat
  last : Nat
  word : Word
  deriving DecidableEq
abbrev Dir := Int × Int
abbrev Board := List Pin
def cross (a b : Dir) : Int := a.1 * b.2 - a.2 * b.1
def neg (a : Dir) : Dir := (0 - a.1, 0 - a.2)
def pin (b : Board) (i : Nat) : Pin := b.getD i ⟨0, 0, .left⟩
def way (b : Board) (i : Nat) : Way := (pin b i).way
def between (b : Board) (i j : Nat) : Dir := ((pin b j).x - (pin b i).x, (pin b j).y - (pin b i).y)
def pairsOf (b : Board) : List Dir := (List.range b.length).flatMap fun other => (List.range other).map fun one => between b one other

/-- a board: three to eight pins, no two pairs along one direction -/
structure Valid (b : Board) : Prop where
  few : 3 ≤ b.length
  most : b.length ≤ 8
  place : ∀ p ∈ b, 0 ≤ p.x ∧ p.x ≤ 99 ∧ 0 ≤ p.y ∧ p.y ≤ 99
  apart : ∀ i j k l : Nat, i < j → j < b.length → k < l → l < b.length → (i ≠ k ∨ j ≠ l) → cross (between b i j) (between b k l) ≠ 0
structure StandOk (b : Board) (s : Stand) : Prop where
  own : s.own < b.length
  last : s.last < b.length
  ne : s.own ≠ s.last

def lookOf (b : Board) (s : Stand) : Dir :=
  match s.word with
  | .ahead => between b s.own s.last
  | .behind => between b s.last s.own
/-- whether a direction lies in the half to which a line turns -/
def toSide (look : Dir) (way : Way) (d : Dir) : Bool := decide (0 < cross look d) == decide (way = .left)
/-- one pin more looked at -/
def metStep (b : Board) (own : Nat) (look : Dir) (way : Way) (best : Option (Nat × Word × Dir)) (pin : Nat) : Option (Nat × Word × Dir) :=
  let to := between b own pin
  let isAhead := toSide look way to
  let thn := if isAhead = true then to else neg to
  match best with
  | none => some (pin, if isAhead = true then .ahead else .behind, thn)
  | some x => if toSide thn way x.2.2 = true then some (pin, if isAhead = true then .ahead else .behind, thn) else some x
def metFirst (b : Board) (own : Nat) (look : Dir) (way : Way) (some : List Nat) : Option (Nat × Word × Dir) := some.foldl (metStep b own look way) none
def beside (b : Board) (own last : Nat) : List Nat := (List.range b.length).filter fun p => !(p == own || p == last)
def beat (b : Board) (s : Stand) : Stand :=
  match metFirst b s.own (lookOf b s) (way b s.own) (beside b s.own s.last) with
  | some x => ⟨x.1, s.own, x.2.1.flip⟩
  | none => s
def back (b : Board) (s : Stand) : Stand :=
  match metFirst b s.last (lookOf b s) (way b s.last).flip (beside b s.own s.last) with
  | some x => ⟨s.last, x.1, x.2.1⟩
  | none => s
def allStands (b : Board) : List Stand := (List.range b.length).flatMap fun own => ((List.range b.length).filter fun last => last != own).flatMap fun last => [⟨own, last, .ahead⟩, ⟨own, last, .behind⟩]
def withWays (b : Board) (pins : List Nat) : Board := b.mapIdx fun i p => if i ∈ pins then { p with way := p.way.flip } else p
def mirrored (b : Board) : Board := b.map fun p => ⟨99 - p.x, p.y, p.way.flip⟩
def byWays (b : Board) (ws : List Way) : Board := (b.zip ws).map fun q => { q.1 with way := q.2 }
def allWays : Nat → List (List Way)
  | 0 => [[]]
  | n + 1 => (allWays n).flatMap fun row => [row ++ [.left], row ++ [.right]]
/-- the stand at a row's last pin -/
def follow (b : Board) : Stand → List Nat → Option Stand
  | s, [] => some s
  | s, p :: r => if (beat b s).own = p then follow b (beat b s) r else none
def endOf (b : Board) (s : Stand) : List Nat → Option Stand
  | [] => none
  | p :: r => if s.own = p then follow b s r else none
def stories (b : Board) (row : List Nat) : List (List Way × Stand × Stand) :=
  (allWays b.length).flatMap fun ws => (allStands (byWays b ws)).filterMap fun s => (endOf (byWays b ws) s row).map fun e => (ws, s, e)
end Wm
end
section
set_option autoImplicit false
/-! WmB: boards, plainly -/
namespace Wm
def PinOk (p : Pin) : Prop := 0 ≤ p.x ∧ p.x ≤ 99 ∧ 0 ≤ p.y ∧ p.y ≤ 99
def Sm (d : Dir) : Prop := -(2 ^ 64) < d.1 ∧ d.1 < 2 ^ 64 ∧ -(2 ^ 64) < d.2 ∧ d.2 < 2 ^ 64
theorem pairs_len (b : Board) : ∀ n, n ≤ 100 → ((List.range n).flatMap fun other => (List.range other).map fun one => between b one other).length ≤ n * 100 := by
  intro n
  induction n with
  | zero => intro _; exact Nat.le_refl _
  | succ n ih =>
    intro h
    have := ih (by omega)
    rw [List.range_succ, List.flatMap_append, List.length_append, List.flatMap_cons, List.flatMap_nil, List.append_nil, List.length_map, List.length_range]
    omega
theorem nd_ix {α : Type} {l : List α} (h : l.Nodup) {i j : Nat} {a : α} (hi : l[i]? = some a) (hj : l[j]? = some a) : i = j := by
  obtain ⟨h1, e1⟩ := List.getElem?_eq_some_iff.mp hi
  obtain ⟨h2, e2⟩ := List.getElem?_eq_some_iff.mp hj
  rcases Nat.lt_trichotomy i j with c | c | c
  · exact absurd (e1.trans e2.symm) (List.pairwise_iff_getElem.mp h i j h1 h2 c)
  · exact c
  · exact absurd (e2.trans e1.symm) (List.pairwise_iff_getElem.mp h j i h2 h1 c)
theorem pin_mem {b : Board} {i : Nat} (h : i < b.length) : pin b i ∈ b := by
  unfold pin
  rw [List.getD_eq_getElem?_getD, List.getElem?_eq_getElem h]
  exact List.getElem_mem h
theorem Valid.sm {b : Board} (h : Valid b) {i j : Nat} (hi : i < b.length) (hj : j < b.length) : Sm (between b i j) := by
  have h1 := h.place _ (pin_mem hi)
  have h2 := h.place _ (pin_mem hj)
  unfold Sm between
  refine ⟨?_, ?_, ?_, ?_⟩ <;> simp only <;> omega
def idx (n : Nat) : List (Nat × Nat) := (List.range n).flatMap fun j => (List.range j).map fun i => (i, j)
theorem mem_idx {n : Nat} {p : Nat × Nat} : p ∈ idx n ↔ p.1 < p.2 ∧ p.2 < n := by
  unfold idx
  rw [List.mem_flatMap]
  constructor
  · rintro ⟨j, hj, hp⟩
    obtain ⟨i, hi, rfl⟩ := List.mem_map.mp hp
    exact ⟨List.mem_range.mp hi, List.mem_range.mp hj⟩
  · rintro ⟨h1, h2⟩
    exact ⟨p.2, List.mem_range.mpr h2, List.mem_map.mpr ⟨p.1, List.mem_range.mpr h1, rfl⟩⟩
theorem idx_nodup : ∀ n, (idx n).Nodup
  | 0 => List.nodup_nil
  | n + 1 => by
    have e : idx (n + 1) = idx n ++ (List.range n).map fun i => (i, n) := by
      unfold idx
      rw [List.range_succ, List.flatMap_append, List.flatMap_cons, List.flatMap_nil, List.append_nil]
    rw [e]
    refine List.nodup_append.mpr ⟨idx_nodup n, ?_, ?_⟩
    · exact List.Pairwise.map _ (fun a b h e => h (congrArg Prod.fst e)) List.nodup_range
    · intro a ha c hc e
      subst e
      obtain ⟨i, _, rfl⟩ := List.mem_map.mp hc
      have := mem_idx.mp ha
      simp only at this
      omega
theorem pairs_idx (b : Board) : pairsOf b = (idx b.length).map fun p => between b p.1 p.2 := by
  unfold pairsOf idx
  rw [List.map_flatMap]
  congr 1
  funext j
  rw [List.map_map]
  rfl
theorem Valid.pairs {b : Board} (h : Valid b) {i j : Nat} {u v : Dir} (hij : i ≠ j) (hu : (pairsOf b)[i]? = some u) (hv : (pairsOf b)[j]? = some v) : cross u v ≠ 0 := by
  rw [pairs_idx, List.getElem?_map] at hu hv
  cases e1 : (idx b.length)[i]? with
  | none => rw [e1] at hu; cases hu
  | some p =>
    cases e2 : (idx b.length)[j]? with
    | none => rw [e2] at hv; cases hv
    | some q =>
      rw [e1] at hu
      rw [e2] at hv
      have hu' := Option.some.inj hu
      have hv' := Option.some.inj hv
      subst hu' hv'
      have m1 := mem_idx.mp (List.mem_of_getElem? e1)
      have m2 := mem_idx.mp (List.mem_of_getElem? e2)
      refine h.apart p.1 p.2 q.1 q.2 m1.1 m1.2 m2.1 m2.2 ?_
      have hne : p ≠ q := fun e => by
        subst e
        exact hij (nd_ix (idx_nodup _) e1 e2)
      by_cases c : p.1 = q.1
      · exact .inr fun d => hne (Prod.ext c d)
      · exact .inl c
theorem Valid.pairSm {b : Board} (h : Valid b) {u : Dir} (hu : u ∈ pairsOf b) : Sm u := by
  rw [pairs_idx] at hu
  obtain ⟨p, hp, rfl⟩ := List.mem_map.mp hu
  have m1 := mem_idx.mp hp
  exact h.sm (by omega) m1.2
theorem pairs_few (b : Board) (h : b.length ≤ 8) : (pairsOf b).length ≤ 800 := by
  have := pairs_len b b.length (by omega)
  unfold pairsOf
  omega
theorem flat_few {α β : Type} (m : Nat) (F : α → List β) : ∀ xs : List α, (∀ x ∈ xs, (F x).length ≤ m) → (xs.flatMap F).length ≤ xs.length * m
  | [], _ => by simp
  | x :: xs, h => by
    rw [List.flatMap_cons, List.length_append, List.length_cons, Nat.add_mul, Nat.one_mul]
    have h1 := h x List.mem_cons_self
    have h2 := flat_few m F xs fun y hy => h y (List.mem_cons_of_mem _ hy)
    omega
end Wm
end
section
set_option autoImplicit false
/-! WmC: beats, plainly: what is met is a pin of those asked -/
namespace Wm
theorem neg_sm {d : Dir} (h : Sm d) : Sm (neg d) := by
  unfold Sm neg at *
  simp only
  omega
theorem step_some (b : Board) (own : Nat) (look : Dir) (way : Way) (x : Option (Nat × Word × Dir)) (p : Nat) : ∃ y, metStep b own look way x p = some y ∧ ((y.1 = p ∧ (y.2.2 = between b own p ∨ y.2.2 = neg (between b own p))) ∨ x = some y) := by
  unfold metStep
  simp only
  cases x with
  | none =>
    refine ⟨_, rfl, .inl ⟨rfl, ?_⟩⟩
    by_cases h : toSide look way (between b own p) = true
    · simp [h]
    · simp [h]
  | some x =>
    cases h : toSide look way (between b own p) with
    | true =>
      cases g : toSide (between b own p) way x.2.2 with
      | true => exact ⟨(p, .ahead, between b own p), by simp [g], .inl ⟨rfl, .inl rfl⟩⟩
      | false => exact ⟨x, by simp [g], .inr rfl⟩
    | false =>
      cases g : toSide (neg (between b own p)) way x.2.2 with
      | true => exact ⟨(p, .behind, neg (between b own p)), by simp [g], .inl ⟨rfl, .inr rfl⟩⟩
      | false => exact ⟨x, by simp [g], .inr rfl⟩
theorem fold_some (b : Board) (own : Nat) (look : Dir) (way : Way) : ∀ (l : List Nat) (x : Option (Nat × Word × Dir)), (l ≠ [] ∨ x ≠ none) → ∃ y, l.foldl (metStep b own look way) x = some y ∧ ((y.1 ∈ l ∧ (y.2.2 = between b own y.1 ∨ y.2.2 = neg (between b own y.1))) ∨ x = some y)
  | [], x, h => by
    cases x with
    | none => exact (h.elim (fun a => a rfl) fun a => a rfl).elim
    | some y => exact ⟨y, rfl, .inr rfl⟩
  | p :: l, x, _ => by
    obtain ⟨z, e, hz⟩ := step_some b own look way x p
    obtain ⟨y, e2, hy⟩ := fold_some b own look way l (some z) (.inr fun c => nomatch c)
    rw [List.foldl_cons, e]
    refine ⟨y, e2, ?_⟩
    rcases hy with ⟨h1, h2⟩ | h
    · exact .inl ⟨List.mem_cons_of_mem _ h1, h2⟩
    · have e3 := Option.some.inj h
      subst e3
      rcases hz with ⟨h1, h2⟩ | h
      · rw [← h1] at h2
        exact .inl ⟨by rw [h1]; exact List.mem_cons_self, h2⟩
      · exact .inr h
theorem met_some (b : Board) (own : Nat) (look : Dir) (way : Way) {l : List Nat} (h : l ≠ []) : ∃ y, metFirst b own look way l = some y ∧ y.1 ∈ l ∧ (y.2.2 = between b own y.1 ∨ y.2.2 = neg (between b own y.1)) := by
  obtain ⟨y, e, hy⟩ := fold_some b own look way l none (.inl h)
  exact ⟨y, e, hy.elim id fun c => nomatch c⟩
theorem met_mem {b : Board} {own : Nat} {look : Dir} {way : Way} {l : List Nat} {y : Nat × Word × Dir} (h : metFirst b own look way l = some y) : y.1 ∈ l ∧ (y.2.2 = between b own y.1 ∨ y.2.2 = neg (between b own y.1)) := by
  have hl : l ≠ [] := fun e => by subst e; cases h
  obtain ⟨z, e, hz⟩ := met_some b own look way hl
  rw [h] at e
  exact Option.some.inj e ▸ hz
theorem met_sm {b : Board} {own : Nat} {look : Dir} {way : Way} {l : List Nat} {y : Nat × Word × Dir} (hb : Valid b) (ho : own < b.length) (hl : ∀ p ∈ l, p < b.length) (h : metFirst b own look way l = some y) : Sm y.2.2 := by
  obtain ⟨h1, h2⟩ := met_mem h
  have h3 := hb.sm ho (hl _ h1)
  rcases h2 with h2 | h2
  · rw [h2]; exact h3
  · rw [h2]; exact neg_sm h3
theorem mem_beside {b : Board} {own last p : Nat} : p ∈ beside b own last ↔ p < b.length ∧ p ≠ own ∧ p ≠ last := by
  unfold beside
  rw [List.mem_filter, List.mem_range]
  simp
theorem beside_ne {b : Board} {own last : Nat} (h : 3 ≤ b.length) : beside b own last ≠ [] := by
  have : ∃ p, p < 3 ∧ p ≠ own ∧ p ≠ last := by
    by_cases h0 : 0 ≠ own ∧ 0 ≠ last
    · exact ⟨0, by omega, h0⟩
    by_cases h1 : 1 ≠ own ∧ 1 ≠ last
    · exact ⟨1, by omega, h1⟩
    exact ⟨2, by omega, by omega, by omega⟩
  obtain ⟨p, h1, h2, h3⟩ := this
  intro e
  have := mem_beside (b := b) (own := own) (last := last) (p := p)
  rw [e] at this
  exact List.not_mem_nil (this.mpr ⟨by omega, h2, h3⟩)
/-- what a beat meets -/
theorem beat_met {b : Board} {s : Stand} (hb : 3 ≤ b.length) : ∃ y, metFirst b s.own (lookOf b s) (way b s.own) (beside b s.own s.last) = some y ∧ beat b s = ⟨y.1, s.own, y.2.1.flip⟩ ∧ y.1 < b.length ∧ y.1 ≠ s.own ∧ y.1 ≠ s.last := by
  obtain ⟨y, e, h1, _⟩ := met_some b s.own (lookOf b s) (way b s.own) (beside_ne (own := s.own) (last := s.last) hb)
  refine ⟨y, e, ?_, mem_beside.mp h1⟩
  unfold beat
  rw [e]
theorem beat_ok {b : Board} {s : Stand} (hb : Valid b) (hs : StandOk b s) : StandOk b (beat b s) := by
  obtain ⟨y, _, e, h1, h2, h3⟩ := beat_met (s := s) hb.few
  rw [e]
  exact ⟨h1, hs.own, h2⟩
theorem toSide_eq (look : Dir) (way : Way) (d : Dir) : toSide look way d = decide (decide (0 < cross look d) = decide (way = .left)) := by
  unfold toSide
  cases decide (0 < cross look d) <;> cases decide (way = Way.left) <;> rfl
theorem mem_allStands {b : Board} {s : Stand} : s ∈ allStands b ↔ StandOk b s := by
  unfold allStands
  constructor
  · intro h
    obtain ⟨own, ho, h⟩ := List.mem_flatMap.mp h
    obtain ⟨last, hl, h⟩ := List.mem_flatMap.mp h
    obtain ⟨hl, hn⟩ := List.mem_filter.mp hl
    have hn' : last ≠ own := by simpa using hn
    rcases List.mem_cons.mp h with rfl | h
    · exact ⟨List.mem_range.mp ho, List.mem_range.mp hl, fun e => hn' e.symm⟩
    · rw [List.mem_singleton.mp h]
      exact ⟨List.mem_range.mp ho, List.mem_range.mp hl, fun e => hn' e.symm⟩
  · rintro ⟨h1, h2, h3⟩
    refine List.mem_flatMap.mpr ⟨s.own, List.mem_range.mpr h1, List.mem_flatMap.mpr ⟨s.last, List.mem_filter.mpr ⟨List.mem_range.mpr h2, by simpa using fun e => h3 e.symm⟩, ?_⟩⟩
    obtain ⟨o, l, w⟩ := s
    cases w
    · exact List.mem_cons_self
    · exact List.mem_cons_of_mem _ List.mem_cons_self
end Wm
end
section
set_option autoImplicit false
/-! WmD: what is seen, plainly -/
namespace Wm
theorem allWays_length : ∀ n, (allWays n).length = 2 ^ n
  | 0 => rfl
  | n + 1 => by
    unfold allWays
    have h : ∀ l : List (List Way), (l.flatMap fun row => [row ++ [Way.left], row ++ [.right]]).length = l.length * 2 := by
      intro l
      induction l with
      | nil => rfl
      | cons a l ih => rw [List.flatMap_cons, List.length_append, ih, List.length_cons]; simp; omega
    rw [h, allWays_length n, Nat.pow_succ]
theorem mem_allWays : ∀ {n : Nat} {ws : List Way}, ws ∈ allWays n ↔ ws.length = n
  | 0, ws => by unfold allWays; simp
  | n + 1, ws => by
    unfold allWays
    rw [List.mem_flatMap]
    constructor
    · rintro ⟨row, hr, h⟩
      have := mem_allWays.mp hr
      simp only [List.mem_cons, List.not_mem_nil, or_false] at h
      rcases h with rfl | rfl <;> simp [this]
    · intro h
      have hne : ws ≠ [] := fun e => by rw [e] at h; cases h
      refine ⟨ws.dropLast, mem_allWays.mpr (by rw [List.length_dropLast]; omega), ?_⟩
      have e := List.dropLast_concat_getLast hne
      cases hw : ws.getLast hne with
      | left => rw [hw] at e; simp [e]
      | right => rw [hw] at e; simp [e]
theorem byWays_length {b : Board} {ws : List Way} (h : ws.length = b.length) : (byWays b ws).length = b.length := by
  unfold byWays
  rw [List.length_map, List.length_zip]
  omega
theorem byWays_at {b : Board} {ws : List Way} {i : Nat} {w : Way} (hi : i < b.length) (hw : ws[i]? = some w) : pin (byWays b ws) i = { pin b i with way := w } := by
  have e : (byWays b ws)[i]? = some { pin b i with way := w } := by
    unfold byWays pin
    have e2 : (b.zip ws)[i]? = some (b[i], w) := List.getElem?_zip_eq_some.mpr ⟨List.getElem?_eq_getElem hi, hw⟩
    rw [List.getElem?_map, e2, List.getD_eq_getElem?_getD, List.getElem?_eq_getElem hi]
    rfl
  conv => lhs; unfold pin
  rw [List.getD_eq_getElem?_getD, e]
  rfl
/-- two boards of the same places -/
structure Like (b c : Board) : Prop where
  len : c.length = b.length
  spot : ∀ i, i < b.length → (pin c i).x = (pin b i).x ∧ (pin c i).y = (pin b i).y
theorem Like.between {b c : Board} (h : Like b c) {i j : Nat} (hi : i < b.length) (hj : j < b.length) : between c i j = between b i j := by
  unfold Wm.between
  rw [(h.spot i hi).1, (h.spot i hi).2, (h.spot j hj).1, (h.spot j hj).2]
theorem pin_of_mem {b : Board} {p : Pin} (h : p ∈ b) : ∃ i, i < b.length ∧ pin b i = p := by
  obtain ⟨i, hi, e⟩ := List.getElem_of_mem h
  refine ⟨i, hi, ?_⟩
  unfold pin
  rw [List.getD_eq_getElem?_getD, List.getElem?_eq_getElem hi, e]
  rfl
theorem Like.valid {b c : Board} (h : Like b c) (hb : Valid b) : Valid c where
  few := by rw [h.len]; exact hb.few
  most := by rw [h.len]; exact hb.most
  place p hp := by
    obtain ⟨i, hi, rfl⟩ := pin_of_mem hp
    rw [h.len] at hi
    have := hb.place _ (pin_mem hi)
    rw [(h.spot i hi).1, (h.spot i hi).2]
    exact this
  apart i j k l h1 h2 h3 h4 h5 := by
    rw [h.len] at h2 h4
    rw [h.between (by omega) h2, h.between (by omega) h4]
    exact hb.apart i j k l h1 h2 h3 h4 h5
theorem like_byWays {b : Board} {ws : List Way} (h : ws.length = b.length) : Like b (byWays b ws) where
  len := byWays_length h
  spot i hi := by
    rw [byWays_at hi (List.getElem?_eq_getElem (by omega))]
    exact ⟨rfl, rfl⟩
theorem Like.standOk {b c : Board} (h : Like b c) {s : Stand} (hs : StandOk b s) : StandOk c s := ⟨by rw [h.len]; exact hs.own, by rw [h.len]; exact hs.last, hs.ne⟩
theorem withWays_length (b : Board) (r : List Nat) : (withWays b r).length = b.length := by unfold withWays; rw [List.length_mapIdx]
theorem withWays_at {b : Board} {r : List Nat} {i : Nat} (hi : i < b.length) : pin (withWays b r) i = if i ∈ r then { pin b i with way := (pin b i).way.flip } else pin b i := by
  unfold withWays pin
  rw [List.getD_eq_getElem?_getD, List.getD_eq_getElem?_getD, List.getElem?_mapIdx, List.getElem?_eq_getElem hi]
  rfl
theorem like_withWays (b : Board) (r : List Nat) : Like b (withWays b r) where
  len := withWays_length b r
  spot i hi := by
    rw [withWays_at hi]
    split <;> exact ⟨rfl, rfl⟩
theorem like_trans {b c d : Board} (h : Like b c) (g : Like c d) : Like b d := ⟨g.len.trans h.len, fun i hi => by have h1 := h.spot i hi; have h2 := g.spot i (by rw [h.len]; exact hi); exact ⟨h2.1.trans h1.1, h2.2.trans h1.2⟩⟩
theorem like_symm {b c : Board} (h : Like b c) : Like c b := ⟨h.len.symm, fun i hi => by have := h.spot i (by rw [← h.len]; exact hi); exact ⟨this.1.symm, this.2.symm⟩⟩

theorem follow_ok {b : Board} (hb : Valid b) : ∀ (row : List Nat) (s e : Stand), StandOk b s → follow b s row = some e → StandOk b e
  | [], s, e, hs, h => by
    unfold follow at h
    exact Option.some.inj h ▸ hs
  | p :: row, s, e, hs, h => by
    unfold follow at h
    split at h
    · exact follow_ok hb row _ e (beat_ok hb hs) h
    · cases h
theorem end_ok {b : Board} (hb : Valid b) {row : List Nat} {s e : Stand} (hs : StandOk b s) (h : endOf b s row = some e) : StandOk b e := by
  cases row with
  | nil => cases h
  | cons p row =>
    unfold endOf at h
    simp only at h
    split at h
    · exact follow_ok hb row s e hs h
    · cases h
abbrev Story := List Way × Stand × Stand
theorem mem_stories {b : Board} {row : List Nat} {t : Story} : t ∈ stories b row ↔ t.1.length = b.length ∧ t.2.1 ∈ allStands (byWays b t.1) ∧ endOf (byWays b t.1) t.2.1 row = some t.2.2 := by
  unfold stories
  rw [List.mem_flatMap]
  constructor
  · rintro ⟨ws, hw, h⟩
    obtain ⟨s, hs, e⟩ := List.mem_filterMap.mp h
    rw [Option.map_eq_some_iff] at e
    obtain ⟨z, hz, rfl⟩ := e
    exact ⟨mem_allWays.mp hw, hs, hz⟩
  · rintro ⟨h1, h2, h3⟩
    exact ⟨t.1, mem_allWays.mpr h1, List.mem_filterMap.mpr ⟨t.2.1, h2, by rw [h3]; rfl⟩⟩
def sureAt (ts : List Story) (i : Nat) : Option Way :=
  match ts with
  | [] => none
  | t :: ts => if ts.all (fun u => decide (u.1[i]? = t.1[i]?)) = true then t.1[i]? else none
def sure (b : Board) (row : List Nat) : Option (List (Option Way)) :=
  match stories b row with
  | [] => none
  | t :: ts => some ((List.range b.length).map (sureAt (t :: ts)))
def nextPins (b : Board) (row : List Nat) : List Nat := (List.range b.length).filter fun p => (stories b row).any fun t => decide ((beat (byWays b t.1) t.2.2).own = p)
theorem stand_few (b : Board) (n : Nat) (h : b.length ≤ n) : (allStands b).length ≤ n * (n * 2) := by
  have hin : ∀ (own : Nat) (l : List Nat), (l.flatMap fun last => [Stand.mk own last .ahead, ⟨own, last, .behind⟩]).length = l.length * 2 := by
    intro own l
    induction l with
    | nil => rfl
    | cons a l ih => rw [List.flatMap_cons, List.length_append, ih, List.length_cons]; simp; omega
  unfold allStands
  refine Nat.le_trans (flat_few (n * 2) _ _ fun own _ => ?_) ?_
  · rw [hin]
    have := List.length_filter_le (fun last => last != own) (List.range b.length)
    rw [List.length_range] at this
    omega
  · rw [List.length_range]; exact Nat.mul_le_mul_right _ h
theorem stories_few (b : Board) (h : b.length ≤ 5) (row : List Nat) : (stories b row).length ≤ 1600 := by
  unfold stories
  refine Nat.le_trans (flat_few 50 _ _ fun ws hw => ?_) ?_
  · refine Nat.le_trans (List.length_filterMap_le _ _) (stand_few _ 5 ?_)
    rw [byWays_length (mem_allWays.mp hw)]
    exact h
  · rw [allWays_length]
    have : 2 ^ b.length ≤ 2 ^ 5 := Nat.pow_le_pow_right (by omega) h
    omega
end Wm
end
section
set_option Elab.async false
set_option linter.all false
set_option maxRecDepth 100000
set_option maxHeartbeats 2000000
/-! WpA: pure data over the hand layer's heap -/
namespace Wp
open PySem L2

/-! ### data at a value, all of it tracked or written -/
mutual
inductive Dq (K : PySem.W.Frag) (H : Hp) : V → PyData → Prop
  | non : Dq K H .non .none
  | bl (b : Bool) : Dq K H (.bl b) (.bool b)
  | int (i : Int) : Dq K H (.int i) (.int i)
  | str (x : Str) : Dq K H (.str x) (.str x)
  | lst {a : Addr} {xs : List V} {ds : List PyData} : H a = some (.lst xs) → DqAll K H xs ds → Dq K H (.ref a) (.list ds)
  | tup {a : Addr} {xs : List V} {ds : List PyData} : SqT K H a xs → DqAll K H xs ds → Dq K H (.ref a) (.tuple ds)
inductive DqAll (K : PySem.W.Frag) (H : Hp) : List V → List PyData → Prop
  | nil : DqAll K H [] []
  | cons {v : V} {vs : List V} {d : PyData} {ds : List PyData} : Dq K H v d → DqAll K H vs ds → DqAll K H (v :: vs) (d :: ds)
end

section
variable {K : PySem.W.Frag} {H H' : Hp}
theorem same_t {a : Addr} {xs : List V} (e : Same H H') (h : SqT K H a xs) : SqT K H' a xs := by
  rcases h with (h | ⟨o, h⟩) | h
  · exact .inl (.inl (e _ _ h))
  · exact .inl (.inr ⟨o, e _ _ h⟩)
  · exact .inr h
mutual
theorem Dq.mono (e : Same H H') : ∀ (d : PyData) (v : V), Dq K H v d → Dq K H' v d
  | .none, _, h => by cases h; exact .non
  | .bool b, _, h => by cases h; exact .bl b
  | .int i, _, h => by cases h; exact .int i
  | .str x, _, h => by cases h; exact .str x
  | .list ds, _, h => by
    cases h with
    | lst h1 h2 => exact .lst (e _ _ h1) (DqAll.mono e ds _ h2)
  | .tuple ds, _, h => by
    cases h with
    | tup h1 h2 => exact .tup (same_t e h1) (DqAll.mono e ds _ h2)
  | .dict _, _, h => by cases h
theorem DqAll.mono (e : Same H H') : ∀ (ds : List PyData) (vs : List V), DqAll K H vs ds → DqAll K H' vs ds
  | [], _, h => by cases h; exact .nil
  | d :: ds, _, h => by
    cases h with
    | cons h1 h2 => exact .cons (Dq.mono e d _ h1) (DqAll.mono e ds _ h2)
end
mutual
theorem Dq.dp : ∀ (d : PyData) (v : V), Dq K H v d → Dp K H v d
  | .none, _, h => by cases h; exact .non
  | .bool b, _, h => by cases h; exact .bl b
  | .int i, _, h => by cases h; exact .int i
  | .str x, _, h => by cases h; exact .str x
  | .list ds, _, h => by
    cases h with
    | lst h1 h2 => exact .lst (SqL.of h1) (DqAll.dp ds _ h2)
  | .tuple ds, _, h => by
    cases h with
    | tup h1 h2 => exact .tup h1 (DqAll.dp ds _ h2)
  | .dict _, _, h => by cases h
theorem DqAll.dp : ∀ (ds : List PyData) (vs : List V), DqAll K H vs ds → DpAll K H vs ds
  | [], _, h => by cases h; exact .nil
  | d :: ds, _, h => by
    cases h with
    | cons h1 h2 => exact .cons (Dq.dp d _ h1) (DqAll.dp ds _ h2)
end
theorem DqAll.length : ∀ {ds : List PyData} {vs : List V}, DqAll K H vs ds → vs.length = ds.length
  | [], _, h => by cases h; rfl
  | d :: ds, _, h => by
    cases h with
    | cons h1 h2 => exact congrArg (· + 1) (DqAll.length h2)
theorem DqAll.at : ∀ {ds : List PyData} {vs : List V} {i : Nat} {d : PyData}, DqAll K H vs ds → ds[i]? = some d → ∃ v, vs[i]? = some v ∧ Dq K H v d
  | [], _, _, _, _, e => by simp at e
  | _ :: _, _, 0, _, h, e => by
    cases h with
    | cons h1 h2 =>
      have e' := Option.some.inj e
      subst e'
      exact ⟨_, rfl, h1⟩
  | _ :: _, _, i + 1, _, h, e => by
    cases h with
    | cons h1 h2 => exact DqAll.at (i := i) h2 e
theorem DqAll.append : ∀ {ds es : List PyData} {vs us : List V}, DqAll K H vs ds → DqAll K H us es → DqAll K H (vs ++ us) (ds ++ es)
  | [], _, _, _, h, g => by cases h; exact g
  | _ :: _, _, _, _, h, g => by
    cases h with
    | cons h1 h2 => exact .cons h1 (DqAll.append h2 g)
theorem DqAll.take : ∀ {ds : List PyData} {vs : List V} (n : Nat), DqAll K H vs ds → DqAll K H (vs.take n) (ds.take n)
  | [], _, n, h => by cases h; rw [List.take_nil, List.take_nil]; exact .nil
  | _ :: _, _, 0, h => .nil
  | _ :: _, _, n + 1, h => by
    cases h with
    | cons h1 h2 => exact .cons h1 (DqAll.take n h2)
theorem DqAll.drop : ∀ {ds : List PyData} {vs : List V} (n : Nat), DqAll K H vs ds → DqAll K H (vs.drop n) (ds.drop n)
  | [], _, n, h => by cases h; rw [List.drop_nil, List.drop_nil]; exact .nil
  | _ :: _, _, 0, h => h
  | _ :: _, _, n + 1, h => by
    cases h with
    | cons h1 h2 => exact DqAll.drop n h2
theorem DqAll.reverse {ds : List PyData} {vs : List V} (h : DqAll K H vs ds) : DqAll K H vs.reverse ds.reverse := by
  induction ds generalizing vs with
  | nil => cases h; exact .nil
  | cons d ds ih =>
    cases h with
    | cons h1 h2 =>
      rw [List.reverse_cons, List.reverse_cons]
      exact DqAll.append (ih h2) (.cons h1 .nil)
theorem DqAll.ints : ∀ {ns : List Int} {vs : List V}, DqAll K H vs (ns.map PyData.int) → vs = ns.map V.int
  | [], _, h => by cases h; rfl
  | n :: ns, _, h => by
    cases h with
    | cons h1 h2 => cases h1; rw [DqAll.ints h2]; rfl
theorem DqAll.bls : ∀ {ns : List Bool} {vs : List V}, DqAll K H vs (ns.map PyData.bool) → vs = ns.map V.bl
  | [], _, h => by cases h; rfl
  | n :: ns, _, h => by
    cases h with
    | cons h1 h2 => cases h1; rw [DqAll.bls h2]; rfl
theorem DqAll.ofInts : ∀ {ns : List Int}, DqAll K H (ns.map V.int) (ns.map PyData.int)
  | [] => .nil
  | n :: ns => .cons (.int n) DqAll.ofInts
end

/-! ### growth: the pure part H0 within H -/
structure Gr (W : Addr → Prop) (H0 H H0' H' : Hp) : Prop where
  lo : Same H0 H0'
  hi : ∀ a o, ¬ W a → H a = some o → H' a = some o
  fr : ∀ a, H0 a = none → H a ≠ none → H0' a = none
  th : ∀ a, H a ≠ none → H' a ≠ none
  sub : Same H0' H'
abbrev Pure (_ : Addr) : Prop := False
section
variable {W W' : Addr → Prop} {H0 H H0' H' H0'' H'' : Hp}
theorem Gr.refl (h : Same H0 H) : Gr W H0 H H0 H := ⟨Same.refl _, fun _ _ _ e => e, fun _ e _ => e, fun _ e => e, h⟩
theorem Gr.trans (a : Gr W H0 H H0' H') (b : Gr W H0' H' H0'' H'') : Gr W H0 H H0'' H'' :=
  ⟨a.lo.trans b.lo, fun x o hw e => b.hi x o hw (a.hi x o hw e), fun x e n => b.fr x (a.fr x e n) (a.th x n), fun x n => b.th x (a.th x n), b.sub⟩
theorem Gr.mono (a : Gr W H0 H H0' H') (h : ∀ x, W x → W' x) : Gr W' H0 H H0' H' :=
  ⟨a.lo, fun x o hw e => a.hi x o (fun z => hw (h x z)) e, a.fr, a.th, a.sub⟩
theorem Gr.pure (a : Gr Pure H0 H H0' H') : Gr W H0 H H0' H' := a.mono fun _ z => z.elim
/-- a new object -/
theorem Gr.new {p : Addr} {o : HO} (h : Same H0 H) (hp : H p = none) : Gr W H0 H (upd H0 p o) (upd H p o) where
  lo := fun a u e => by rw [upd_ne (ne_of_none (h _ _ e) hp)]; exact e
  hi := fun a u _ e => by rw [upd_ne (ne_of_none e hp)]; exact e
  fr := fun a e n => by
    have ha : a ≠ p := fun z => n (by rw [z]; exact hp)
    rw [upd_ne ha]; exact e
  th := fun a n z => by
    have ha : a ≠ p := fun z => n (by rw [z]; exact hp)
    rw [upd_ne ha] at z; exact n z
  sub := fun a u e => by
    by_cases ha : a = p
    · subst ha; rw [upd_same] at e ⊢; exact e
    · rw [upd_ne ha] at e ⊢; exact h a u e
/-- a new object that isn't of the pure part -/
theorem Gr.newM {p : Addr} {o : HO} (h : Same H0 H) (hp : H p = none) : Gr W H0 H H0 (upd H p o) where
  lo := Same.refl _
  hi := fun a u _ e => by rw [upd_ne (ne_of_none e hp)]; exact e
  fr := fun a e n => e
  th := fun a n z => by
    have ha : a ≠ p := fun z => n (by rw [z]; exact hp)
    rw [upd_ne ha] at z; exact n z
  sub := fun a u e => by rw [upd_ne (ne_of_none (h a u e) hp)]; exact h a u e
/-- an owned object changes -/
theorem Gr.put {p : Addr} {o : HO} (h : Same H0 H) (hw : W p) (h0 : H0 p = none) : Gr W H0 H H0 (upd H p o) where
  lo := Same.refl _
  hi := fun a u w e => by
    have ha : a ≠ p := fun z => w (by rw [z]; exact hw)
    rw [upd_ne ha]; exact e
  fr := fun a e n => e
  th := fun a n z => by
    by_cases ha : a = p
    · subst ha; rw [upd_same] at z; cases z
    · rw [upd_ne ha] at z; exact n z
  sub := fun a u e => by
    have ha : a ≠ p := fun z => by rw [z, h0] at e; cases e
    rw [upd_ne ha]; exact h a u e
end

/-! ### what a slot, a result holds -/
inductive RD where
  | dat (d : PyData)
  | raw (v : V)
  | ob (f : Addr → HO)
  | sq (ns : List Int)
def Rv (K : PySem.W.Frag) (H : Hp) (v : V) : RD → Prop
  | .dat d => Dq K H v d
  | .raw u => v = u
  | .ob f => ∃ p, v = .ref p ∧ H p = some (f p)
  | .sq ns => ∃ p, v = .ref p ∧ SqL K H p (ns.map V.int)
inductive RvAll (K : PySem.W.Frag) (H : Hp) : List V → List RD → Prop
  | nil : RvAll K H [] []
  | cons {v : V} {vs : List V} {r : RD} {rs : List RD} : Rv K H v r → RvAll K H vs rs → RvAll K H (v :: vs) (r :: rs)
theorem Rv.mono {K : PySem.W.Frag} {H H' : Hp} {v : V} (e : Same H H') : ∀ {r : RD}, Rv K H v r → Rv K H' v r
  | .dat _, h => Dq.mono e _ _ h
  | .raw _, h => h
  | .ob _, ⟨p, a, b⟩ => ⟨p, a, e _ _ b⟩
  | .sq _, ⟨p, a, b⟩ => ⟨p, a, e.seq b⟩
theorem RvAll.mono {K : PySem.W.Frag} {H H' : Hp} (e : Same H H') : ∀ {vs : List V} {rs : List RD}, RvAll K H vs rs → RvAll K H' vs rs
  | _, _, .nil => .nil
  | _, _, .cons a b => .cons (a.mono e) (RvAll.mono e b)
theorem RvAll.dat {K : PySem.W.Frag} {H : Hp} : ∀ {vs : List V} {ds : List PyData}, RvAll K H vs (ds.map RD.dat) → DqAll K H vs ds
  | _, [], h => by cases h; exact .nil
  | _, d :: ds, h => by
    cases h with
    | cons a b => exact .cons a (RvAll.dat b)
theorem RvAll.of {K : PySem.W.Frag} {H : Hp} : ∀ {vs : List V} {ds : List PyData}, DqAll K H vs ds → RvAll K H vs (ds.map RD.dat)
  | _, [], h => by cases h; exact .nil
  | _, d :: ds, h => by
    cases h with
    | cons a b => exact .cons a (RvAll.of b)
theorem RvAll.length {K : PySem.W.Frag} {H : Hp} : ∀ {vs : List V} {rs : List RD}, RvAll K H vs rs → vs.length = rs.length
  | _, _, .nil => rfl
  | _, _, .cons _ b => congrArg (· + 1) (RvAll.length b)

abbrev Env := List (Option RD)
structure EnvOk (K : PySem.W.Frag) (H : Hp) (σ : L2.St) (G : Env) : Prop where
  len : σ.length = G.length
  at' : ∀ (i : Nat) (r : RD), G[i]? = some (some r) → ∃ v, σ[i]? = some (some v) ∧ Rv K H v r
theorem EnvOk.mono {K : PySem.W.Frag} {H H' : Hp} {σ : L2.St} {G : Env} (e : Same H H') (h : EnvOk K H σ G) : EnvOk K H' σ G :=
  ⟨h.len, fun i r q => let ⟨v, a, b⟩ := h.at' i r q; ⟨v, a, b.mono e⟩⟩
theorem EnvOk.set {K : PySem.W.Frag} {H : Hp} {σ : L2.St} {G : Env} {v : V} {r : RD} (i : Nat) (h : EnvOk K H σ G) (hv : Rv K H v r) : EnvOk K H (σ.set i (some v)) (G.set i (some r)) := by
  refine ⟨by rw [List.length_set, List.length_set]; exact h.len, fun j q e => ?_⟩
  by_cases hj : i = j
  · subst hj
    rw [List.getElem?_set] at e
    rw [List.getElem?_set]
    rw [if_pos rfl] at e ⊢
    split at e
    · rename_i hl
      have e' := Option.some.inj (Option.some.inj e)
      subst e'
      rw [if_pos (by rw [h.len]; exact hl)]
      exact ⟨v, rfl, hv⟩
    · cases e
  · rw [List.getElem?_set_ne hj] at e ⊢
    exact h.at' j q e
/-- what is forgotten -/
theorem EnvOk.less {K : PySem.W.Frag} {H : Hp} {σ : L2.St} {G G' : Env} (h : EnvOk K H σ G) (hl : G'.length = G.length) (hs : ∀ (i : Nat) (r : RD), G'[i]? = some (some r) → G[i]? = some (some r)) : EnvOk K H σ G' :=
  ⟨h.len.trans hl.symm, fun i r e => h.at' i r (hs i r e)⟩
theorem EnvOk.start {K : PySem.W.Frag} {H : Hp} {vs : List V} {rs : List RD} (N : List Str) (h : RvAll K H vs rs) : EnvOk K H (L2.start N vs) (rs.map some ++ List.replicate (N.length - rs.length) none) := by
  have e := h.length
  unfold L2.start
  rw [e]
  constructor
  · rw [List.length_append, List.length_append, List.length_map, List.length_map, e, List.length_replicate, List.length_replicate]
  · generalize hn : N.length - rs.length = n
    clear hn e
    induction h with
    | nil =>
      intro i r q
      rw [List.map_nil, List.nil_append] at q
      have := List.mem_replicate.mp (List.mem_of_getElem? q)
      cases this.2
    | cons a b ih =>
      intro i r q
      cases i with
      | zero =>
        have q' := Option.some.inj (Option.some.inj q)
        subst q'
        exact ⟨_, rfl, a⟩
      | succ i => exact ih i r q

/-! ### owned objects -/
inductive Mu where
  | lst (ds : List PyData)
  | obj (o : HO)
def MuOk (K : PySem.W.Frag) (H0 H : Hp) (p : Addr) : Mu → Prop
  | .lst ds => ∃ xs, H p = some (.lst xs) ∧ DqAll K H0 xs ds
  | .obj o => H p = some o
structure MOk (K : PySem.W.Frag) (ps : List Addr) (M : List Mu) (H0 H : Hp) : Prop where
  nd : ps.Nodup
  len : M.length = ps.length
  out : ∀ p ∈ ps, H0 p = none ∧ H p ≠ none
  at' : ∀ (j : Nat) (p : Addr) (m : Mu), ps[j]? = some p → M[j]? = some m → MuOk K H0 H p m
section
variable {K : PySem.W.Frag} {ps : List Addr} {M : List Mu} {H0 H H0' H' : Hp} {W : Addr → Prop}
theorem MuOk.keep {p : Addr} (lo : Same H0 H0') (e : ∀ o, H p = some o → H' p = some o) : ∀ {m : Mu}, MuOk K H0 H p m → MuOk K H0' H' p m
  | .lst _, ⟨xs, a, b⟩ => ⟨xs, e _ a, DqAll.mono lo _ _ b⟩
  | .obj _, h => e _ h
theorem MOk.keep (h : MOk K ps M H0 H) (g : Gr W H0 H H0' H') (hw : ∀ p ∈ ps, ¬ W p) : MOk K ps M H0' H' :=
  ⟨h.nd, h.len, fun p hp => ⟨g.fr p (h.out p hp).1 (h.out p hp).2, g.th p (h.out p hp).2⟩, fun j p m e1 e2 => (h.at' j p m e1 e2).keep g.lo fun o => g.hi p o (hw p (List.mem_of_getElem? e1))⟩
theorem MOk.nil : MOk K [] [] H0 H := ⟨.nil, rfl, (fun p h => nomatch h), fun j p m e => by simp at e⟩
end

/-! ### expressions -/
abbrev Wn (ps : List Addr) : Addr → Prop := fun a => a ∈ ps
def EvG (K : PySem.W.Frag) (ps : List Addr) (te : TE) (G : Env) (M : List Mu) (r : RD) (M' : List Mu) : Prop :=
  ∀ (σ : L2.St) (H0 H : Hp) (Q : VK), Same H0 H → EnvOk K H0 σ G → MOk K ps M H0 H → (∀ v H0' H', Gr (Wn ps) H0 H H0' H' → MOk K ps M' H0' H' → Rv K H0' v r → Q v H') → te σ H Q
def EtG (K : PySem.W.Frag) (ps : List Addr) (tt : TT) (G : Env) (M : List Mu) (b : Bool) (M' : List Mu) : Prop :=
  ∀ (σ : L2.St) (H0 H : Hp) (Q : Bool → Hp → Prop), Same H0 H → EnvOk K H0 σ G → MOk K ps M H0 H → (∀ H0' H', Gr (Wn ps) H0 H H0' H' → MOk K ps M' H0' H' → Q b H') → tt σ H Q
def EaG (K : PySem.W.Frag) (ps : List Addr) (ta : TA) (G : Env) (M : List Mu) (rs : List RD) (M' : List Mu) : Prop :=
  ∀ (σ : L2.St) (H0 H : Hp) (Q : List V → Hp → Prop), Same H0 H → EnvOk K H0 σ G → MOk K ps M H0 H → (∀ vs H0' H', Gr (Wn ps) H0 H H0' H' → MOk K ps M' H0' H' → RvAll K H0' vs rs → Q vs H') → ta σ H Q
def EoG (K : PySem.W.Frag) (ps : List Addr) (to : TO) (G : Env) (M : List Mu) (o : Option Int) (M' : List Mu) : Prop :=
  ∀ (σ : L2.St) (H0 H : Hp) (Q : Option Int → Hp → Prop), Same H0 H → EnvOk K H0 σ G → MOk K ps M H0 H → (∀ H0' H', Gr (Wn ps) H0 H H0' H' → MOk K ps M' H0' H' → Q o H') → to σ H Q

/-- what is given, what comes -/
def Out (K : PySem.W.Frag) (H0 H : Hp) (r : RD) (Q : VK) : Prop := ∀ v H0' H', Gr Pure H0 H H0' H' → Rv K H0' v r → Q v H'
theorem Out.now {K : PySem.W.Frag} {H0 H : Hp} {r : RD} {Q : VK} {v : V} (q : Out K H0 H r Q) (s : Same H0 H) (h : Rv K H0 v r) : Q v H := q v H0 H (Gr.refl s) h
theorem Out.tup {K : PySem.W.Frag} {H0 H : Hp} {ds : List PyData} {Q : VK} {xs : List V} (q : Out K H0 H (.dat (.tuple ds)) Q) (s : Same H0 H) (h : DqAll K H0 xs ds) : ∀ p, H p = none → Q (.ref p) (upd H p (.tup xs)) := fun p hp =>
  q (.ref p) (upd H0 p (.tup xs)) _ (Gr.new s hp) (Dq.tup (SqT.of upd_same) (DqAll.mono (Gr.new (W := Pure) (o := .tup xs) s hp).lo _ _ h))
theorem Out.lst {K : PySem.W.Frag} {H0 H : Hp} {ds : List PyData} {Q : VK} {xs : List V} (q : Out K H0 H (.dat (.list ds)) Q) (s : Same H0 H) (h : DqAll K H0 xs ds) : ∀ p, H p = none → Q (.ref p) (upd H p (.lst xs)) := fun p hp =>
  q (.ref p) (upd H0 p (.lst xs)) _ (Gr.new s hp) (Dq.lst upd_same (DqAll.mono (Gr.new (W := Pure) (o := .lst xs) s hp).lo _ _ h))
theorem Out.ob {K : PySem.W.Frag} {H0 H : Hp} {f : Addr → HO} {Q : VK} (q : Out K H0 H (.ob f) Q) (s : Same H0 H) : ∀ p, H p = none → Q (.ref p) (upd H p (f p)) := fun p hp =>
  q (.ref p) (upd H0 p (f p)) _ (Gr.new s hp) ⟨p, rfl, upd_same⟩
def rD1 (K : PySem.W.Frag) (F : RD → RD → Prop) : V → Hp → VK → Prop := fun x H Q => ∃ H0 a d, Same H0 H ∧ Rv K H0 x a ∧ F a d ∧ Out K H0 H d Q
def rD2 (K : PySem.W.Frag) (F : RD → RD → RD → Prop) : R2 := fun x y H Q => ∃ H0 a b d, Same H0 H ∧ Rv K H0 x a ∧ Rv K H0 y b ∧ F a b d ∧ Out K H0 H d Q
def rDs (K : PySem.W.Frag) (F : List RD → RD → Prop) : List V → Hp → VK → Prop := fun xs H Q => ∃ H0 ds d, Same H0 H ∧ RvAll K H0 xs ds ∧ F ds d ∧ Out K H0 H d Q

section
variable {K : PySem.W.Frag} {ps : List Addr} {G : Env} {M M1 M2 M3 : List Mu} {ta tb te tc : TE} {tt tu : TT}
theorem out_at {H0 H : Hp} {M : List Mu} {d : RD} {Q : VK} (m : MOk K ps M H0 H) (q : ∀ v H0' H', Gr (Wn ps) H0 H H0' H' → MOk K ps M H0' H' → Rv K H0' v d → Q v H') : Out K H0 H d Q :=
  fun v H0' H' g h => q v H0' H' g.pure (m.keep g fun _ _ z => z) h
theorem ev_var {i : Nat} {r : RD} (h : G[i]? = some (some r)) : EvG K ps (tVar i) G M r M := fun σ H0 H Q s e m q => by
  obtain ⟨v, a, b⟩ := e.at' i r h
  exact ⟨v, a, q v H0 H (Gr.refl s) m b⟩
theorem ev_c {v : V} {d : RD} (h : ∀ H, Rv K H v d) : EvG K ps (tC v) G M d M := fun σ H0 H Q s e m q => q v H0 H (Gr.refl s) m (h H0)
theorem ev_int {i : Int} : EvG K ps (tC (.int i)) G M (.dat (.int i)) M := ev_c fun _ => Dq.int i
theorem ev_bl {i : Bool} : EvG K ps (tC (.bl i)) G M (.dat (.bool i)) M := ev_c fun _ => Dq.bl i
theorem ev_str {i : Str} : EvG K ps (tC (.str i)) G M (.dat (.str i)) M := ev_c fun _ => Dq.str i
theorem ev_non : EvG K ps (tC .non) G M (.dat .none) M := ev_c fun _ => Dq.non
theorem ev_raw {v : V} : EvG K ps (tC v) G M (.raw v) M := ev_c fun _ => rfl
theorem ev_op {F : RD → RD → RD → Prop} {a b d : RD} (ha : EvG K ps ta G M a M1) (hb : EvG K ps tb G M1 b M2) (h : F a b d) : EvG K ps (tOp (rD2 K F) ta tb) G M d M2 := fun σ H0 H Q s e m q =>
  ha σ H0 H _ s e m fun x H1 H1' g1 m1 d1 => hb σ H1 H1' _ g1.sub (e.mono g1.lo) m1 fun y H2 H2' g2 m2 d2 =>
    ⟨H2, a, b, d, g2.sub, d1.mono g2.lo, d2, h, out_at m2 fun v H3 H3' g3 m3 d3 => q v H3 H3' ((g1.trans g2).trans g3) m3 d3⟩
theorem ev_un {F : RD → RD → Prop} {a d : RD} (ha : EvG K ps ta G M a M1) (h : F a d) : EvG K ps (tUn (rD1 K F) ta) G M d M1 := fun σ H0 H Q s e m q =>
  ha σ H0 H _ s e m fun x H1 H1' g1 m1 d1 => ⟨H1, a, d, g1.sub, d1, h, out_at m1 fun v H3 H3' g3 m3 d3 => q v H3 H3' (g1.trans g3) m3 d3⟩
theorem ea_nil : EaG K ps tNil G M [] M := fun σ H0 H Q s e m q => q [] H0 H (Gr.refl s) m .nil
theorem ea_cons {tr : TA} {r : RD} {rs : List RD} (h : EvG K ps ta G M r M1) (hr : EaG K ps tr G M1 rs M2) : EaG K ps (tCons ta tr) G M (r :: rs) M2 := fun σ H0 H Q s e m q =>
  h σ H0 H _ s e m fun x H1 H1' g1 m1 d1 => hr σ H1 H1' _ g1.sub (e.mono g1.lo) m1 fun xs H2 H2' g2 m2 d2 => q _ H2 H2' (g1.trans g2) m2 (.cons (d1.mono g2.lo) d2)
theorem ev_cb {F : List RD → RD → Prop} {t : TA} {ds : List RD} {d : RD} (ha : EaG K ps t G M ds M1) (h : F ds d) : EvG K ps (tCB (rDs K F) t) G M d M1 := fun σ H0 H Q s e m q =>
  ha σ H0 H _ s e m fun xs H1 H1' g1 m1 d1 => ⟨H1, ds, d, g1.sub, d1, h, out_at m1 fun v H3 H3' g3 m3 d3 => q v H3 H3' (g1.trans g3) m3 d3⟩
theorem ev_tup {t : TA} {ds : List PyData} (ha : EaG K ps t G M (ds.map .dat) M1) (hl : ds.length ≤ 1000 := by decide) : EvG K ps (tTup t) G M (.dat (.tuple ds)) M1 := fun σ H0 H Q s e m q =>
  ha σ H0 H _ s e m fun xs H1 H1' g1 m1 d1 => ⟨by rw [d1.dat.length, sizeLine_eq]; omega, (out_at m1 fun v H3 H3' g3 m3 d3 => q v H3 H3' (g1.trans g3) m3 d3).tup g1.sub d1.dat⟩
theorem ev_lst {t : TA} {ds : List PyData} (ha : EaG K ps t G M (ds.map .dat) M1) (hl : ds.length ≤ 1000 := by decide) : EvG K ps (tLst t) G M (.dat (.list ds)) M1 := fun σ H0 H Q s e m q =>
  ha σ H0 H _ s e m fun xs H1 H1' g1 m1 d1 => ⟨by rw [d1.dat.length, sizeLine_eq]; omega, (out_at m1 fun v H3 H3' g3 m3 d3 => q v H3 H3' (g1.trans g3) m3 d3).lst g1.sub d1.dat⟩
theorem et_test {b : Bool} (h : EvG K ps te G M (.dat (.bool b)) M1) : EtG K ps (tTest te) G M b M1 := fun σ H0 H Q s e m q =>
  h σ H0 H _ s e m fun v H1 H1' g1 m1 d1 => by cases d1; exact ⟨b, rfl, q H1 H1' g1 m1⟩
theorem et_B {b : Bool} (h : EvG K ps te G M (.dat (.bool b)) M1) : EtG K ps (tB te) G M b M1 := fun σ H0 H Q s e m q =>
  h σ H0 H _ s e m fun v H1 H1' g1 m1 d1 => by cases d1; exact ⟨b, rfl, q H1 H1' g1 m1⟩
theorem et_not {b : Bool} (h : EtG K ps tt G M b M1) : EtG K ps (tNot tt) G M (!b) M1 := fun σ H0 H Q s e m q =>
  h σ H0 H _ s e m fun H1 H1' g1 m1 => q H1 H1' g1 m1
/-- and: the second is asked where the first is so; M1 behind the first alone -/
theorem et_andF (h1 : EtG K ps tt G M false M1) : EtG K ps (tAnd tt tu) G M false M1 := fun σ H0 H Q s e m q =>
  h1 σ H0 H _ s e m fun H1 H1' g1 m1 => iteF (q H1 H1' g1 m1)
theorem et_andT {b : Bool} (h1 : EtG K ps tt G M true M1) (h2 : EtG K ps tu G M1 b M2) : EtG K ps (tAnd tt tu) G M b M2 := fun σ H0 H Q s e m q =>
  h1 σ H0 H _ s e m fun H1 H1' g1 m1 => iteT (h2 σ H1 H1' _ g1.sub (e.mono g1.lo) m1 fun H2 H2' g2 m2 => q H2 H2' (g1.trans g2) m2)
theorem et_and {a b : Bool} (h1 : EtG K ps tt G M a M1) (h2 : a = true → EtG K ps tu G M1 b M1) : EtG K ps (tAnd tt tu) G M (a && b) M1 := by
  cases a with
  | false => exact et_andF h1
  | true => exact et_andT h1 (h2 rfl)
theorem et_orT (h1 : EtG K ps tt G M true M1) : EtG K ps (tOr tt tu) G M true M1 := fun σ H0 H Q s e m q =>
  h1 σ H0 H _ s e m fun H1 H1' g1 m1 => iteT (q H1 H1' g1 m1)
theorem et_orF {b : Bool} (h1 : EtG K ps tt G M false M1) (h2 : EtG K ps tu G M1 b M2) : EtG K ps (tOr tt tu) G M b M2 := fun σ H0 H Q s e m q =>
  h1 σ H0 H _ s e m fun H1 H1' g1 m1 => iteF (h2 σ H1 H1' _ g1.sub (e.mono g1.lo) m1 fun H2 H2' g2 m2 => q H2 H2' (g1.trans g2) m2)
theorem et_or {a b : Bool} (h1 : EtG K ps tt G M a M1) (h2 : a = false → EtG K ps tu G M1 b M1) : EtG K ps (tOr tt tu) G M (a || b) M1 := by
  cases a with
  | false => exact et_orF h1 (h2 rfl)
  | true => exact et_orT h1
theorem ev_andF (h1 : EvG K ps ta G M (.dat (.bool false)) M1) : EvG K ps (tAndV ta tb) G M (.dat (.bool false)) M1 := fun σ H0 H Q s e m q =>
  h1 σ H0 H _ s e m fun v H1 H1' g1 m1 d1 => by cases d1; exact ⟨false, rfl, iteF (q _ H1 H1' g1 m1 (Dq.bl false))⟩
theorem ev_andT {r : RD} (h1 : EvG K ps ta G M (.dat (.bool true)) M1) (h2 : EvG K ps tb G M1 r M2) : EvG K ps (tAndV ta tb) G M r M2 := fun σ H0 H Q s e m q =>
  h1 σ H0 H _ s e m fun v H1 H1' g1 m1 d1 => by cases d1; exact ⟨true, rfl, iteT (h2 σ H1 H1' _ g1.sub (e.mono g1.lo) m1 fun v H2 H2' g2 m2 d2 => q v H2 H2' (g1.trans g2) m2 d2)⟩
theorem ev_and {a b : Bool} (h1 : EvG K ps ta G M (.dat (.bool a)) M1) (h2 : a = true → EvG K ps tb G M1 (.dat (.bool b)) M1) : EvG K ps (tAndV ta tb) G M (.dat (.bool (a && b))) M1 := by
  cases a with
  | false => exact ev_andF h1
  | true => exact ev_andT h1 (h2 rfl)
theorem ev_orT (h1 : EvG K ps ta G M (.dat (.bool true)) M1) : EvG K ps (tOrV ta tb) G M (.dat (.bool true)) M1 := fun σ H0 H Q s e m q =>
  h1 σ H0 H _ s e m fun v H1 H1' g1 m1 d1 => by cases d1; exact ⟨true, rfl, iteT (q _ H1 H1' g1 m1 (Dq.bl true))⟩
theorem ev_orF {r : RD} (h1 : EvG K ps ta G M (.dat (.bool false)) M1) (h2 : EvG K ps tb G M1 r M2) : EvG K ps (tOrV ta tb) G M r M2 := fun σ H0 H Q s e m q =>
  h1 σ H0 H _ s e m fun v H1 H1' g1 m1 d1 => by cases d1; exact ⟨false, rfl, iteF (h2 σ H1 H1' _ g1.sub (e.mono g1.lo) m1 fun v H2 H2' g2 m2 d2 => q v H2 H2' (g1.trans g2) m2 d2)⟩
theorem ev_or {a b : Bool} (h1 : EvG K ps ta G M (.dat (.bool a)) M1) (h2 : a = false → EvG K ps tb G M1 (.dat (.bool b)) M1) : EvG K ps (tOrV ta tb) G M (.dat (.bool (a || b))) M1 := by
  cases a with
  | false => exact ev_orF h1 (h2 rfl)
  | true => exact ev_orT h1
theorem ev_not {b : Bool} (h1 : EvG K ps ta G M (.dat (.bool b)) M1) : EvG K ps (tNotV ta) G M (.dat (.bool (!b))) M1 := fun σ H0 H Q s e m q =>
  h1 σ H0 H _ s e m fun v H1 H1' g1 m1 d1 => by cases d1; exact ⟨b, rfl, q _ H1 H1' g1 m1 (Dq.bl _)⟩
theorem ev_ifT {r : RD} (h : EtG K ps tt G M true M1) (h1 : EvG K ps ta G M1 r M2) : EvG K ps (tIf tt ta tb) G M r M2 := fun σ H0 H Q s e m q =>
  h σ H0 H _ s e m fun H1 H1' g1 m1 => iteT (h1 σ H1 H1' _ g1.sub (e.mono g1.lo) m1 fun v H2 H2' g2 m2 d2 => q v H2 H2' (g1.trans g2) m2 d2)
theorem ev_ifF {r : RD} (h : EtG K ps tt G M false M1) (h1 : EvG K ps tb G M1 r M2) : EvG K ps (tIf tt ta tb) G M r M2 := fun σ H0 H Q s e m q =>
  h σ H0 H _ s e m fun H1 H1' g1 m1 => iteF (h1 σ H1 H1' _ g1.sub (e.mono g1.lo) m1 fun v H2 H2' g2 m2 d2 => q v H2 H2' (g1.trans g2) m2 d2)
theorem ev_if {b : Bool} {x y : PyData} (h : EtG K ps tt G M b M1) (h1 : b = true → EvG K ps ta G M1 (.dat x) M2) (h2 : b = false → EvG K ps tb G M1 (.dat y) M2) : EvG K ps (tIf tt ta tb) G M (.dat (if b = true then x else y)) M2 := by
  cases b with
  | true => exact ev_ifT h (h1 rfl)
  | false => exact ev_ifF h (h2 rfl)
theorem ev_is {r r' : RD} (h : EvG K ps te G M r M1) (e : r = r') : EvG K ps te G M r' M1 := e ▸ h
theorem et_is {b b' : Bool} (h : EtG K ps tt G M b M1) (e : b = b') : EtG K ps tt G M b' M1 := e ▸ h
theorem eo_none : EoG K ps tNoPart G M none M := fun σ H0 H Q s e m q => q H0 H (Gr.refl s) m
theorem eo_some {i : Int} (h : EvG K ps te G M (.dat (.int i)) M1) : EoG K ps (tPart te) G M (some i) M1 := fun σ H0 H Q s e m q =>
  h σ H0 H _ s e m fun v H1 H1' g1 m1 d1 => by cases d1; exact ⟨i, rfl, q H1 H1' g1 m1⟩
/-- a slice, by data -/
def rDS (K : PySem.W.Frag) (F : RD → Option Int → Option Int → RD → Prop) : V → Option Int → Option Int → Hp → VK → Prop := fun x l u H Q => ∃ H0 a d, Same H0 H ∧ Rv K H0 x a ∧ F a l u d ∧ Out K H0 H d Q
theorem ev_sl {F : RD → Option Int → Option Int → RD → Prop} {tl th : TO} {a d : RD} {l u : Option Int} (ha : EvG K ps ta G M a M1) (hl : EoG K ps tl G M1 l M2) (hu : EoG K ps th G M2 u M3) (h : F a l u d) : EvG K ps (tSl (rDS K F) ta tl th) G M d M3 := fun σ H0 H Q s e m q =>
  ha σ H0 H _ s e m fun x H1 H1' g1 m1 d1 => hl σ H1 H1' _ g1.sub (e.mono g1.lo) m1 fun H2 H2' g2 m2 => hu σ H2 H2' _ g2.sub ((e.mono g1.lo).mono g2.lo) m2 fun H3 H3' g3 m3 =>
    ⟨H3, a, d, g3.sub, d1.mono (g2.trans g3).lo, h, out_at m3 fun v H4 H4' g4 m4 d4 => q v H4 H4' (((g1.trans g2).trans g3).trans g4) m4 d4⟩
/-- a < b < c -/
theorem ev_chainT {F F' : RD → RD → RD → Prop} {a b c d : RD} (ha : EvG K ps ta G M a M1) (hb : EvG K ps tb G M1 b M2) (h : F a b (.dat (.bool true))) (hc : EvG K ps tc G M2 c M3) (h' : F' b c d) : EvG K ps (tChain (rD2 K F) (rD2 K F') ta tb tc) G M d M3 := fun σ H0 H Q s e m q =>
  ha σ H0 H _ s e m fun x H1 H1' g1 m1 d1 => hb σ H1 H1' _ g1.sub (e.mono g1.lo) m1 fun y H2 H2' g2 m2 d2 =>
    ⟨H2, a, b, .dat (.bool true), g2.sub, d1.mono g2.lo, d2, h, fun z H3 H3' g3 d3 => by
      cases d3
      refine ⟨true, rfl, iteT ?_⟩
      have m3 := m2.keep g3 fun _ _ z => z
      exact hc σ H3 H3' _ g3.sub (((e.mono g1.lo).mono g2.lo).mono g3.lo) m3 fun w H4 H4' g4 m4 d4 =>
        ⟨H4, b, c, d, g4.sub, d2.mono (g3.lo.trans g4.lo), d4, h', out_at m4 fun v H5 H5' g5 m5 d5 => q v H5 H5' ((((g1.trans g2).trans g3.pure).trans g4).trans g5) m5 d5⟩⟩
theorem ev_chainF {F F' : RD → RD → RD → Prop} {a b : RD} (ha : EvG K ps ta G M a M1) (hb : EvG K ps tb G M1 b M2) (h : F a b (.dat (.bool false))) : EvG K ps (tChain (rD2 K F) (rD2 K F') ta tb tc) G M (.dat (.bool false)) M2 := fun σ H0 H Q s e m q =>
  ha σ H0 H _ s e m fun x H1 H1' g1 m1 d1 => hb σ H1 H1' _ g1.sub (e.mono g1.lo) m1 fun y H2 H2' g2 m2 d2 =>
    ⟨H2, a, b, .dat (.bool false), g2.sub, d1.mono g2.lo, d2, h, fun z H3 H3' g3 d3 => by
      cases d3
      exact ⟨false, rfl, iteF (q _ H3 H3' ((g1.trans g2).trans g3.pure) (m2.keep g3 fun _ _ z => z) (Dq.bl false))⟩⟩
end
end Wp
end
section
set_option Elab.async false
set_option linter.all false
set_option maxRecDepth 100000
set_option maxHeartbeats 2000000
/-! WpB: statements, loops, comprehensions, defs over pure data -/
namespace Wp
open PySem L2

inductive Oc where
  | nx (G : Env) (M : List Mu)
  | rt (r : RD) (M : List Mu)
  | bk (G : Env) (M : List Mu)
  | ct (G : Env) (M : List Mu)
def Cont (K : PySem.W.Frag) (ps : List Addr) (D : Ends) (H0 H : Hp) : Oc → Prop
  | .nx G M => ∀ σ' H0' H', Gr (Wn ps) H0 H H0' H' → EnvOk K H0' σ' G → MOk K ps M H0' H' → D.nx σ' H'
  | .rt r M => ∀ v H0' H', Gr (Wn ps) H0 H H0' H' → MOk K ps M H0' H' → Rv K H0' v r → D.rt v H'
  | .bk G M => ∀ σ' H0' H', Gr (Wn ps) H0 H H0' H' → EnvOk K H0' σ' G → MOk K ps M H0' H' → D.bk σ' H'
  | .ct G M => ∀ σ' H0' H', Gr (Wn ps) H0 H H0' H' → EnvOk K H0' σ' G → MOk K ps M H0' H' → D.ct σ' H'
theorem Cont.after {K : PySem.W.Frag} {ps : List Addr} {D : Ends} {H0 H H0' H' : Hp} (g : Gr (Wn ps) H0 H H0' H') : ∀ {o : Oc}, Cont K ps D H0 H o → Cont K ps D H0' H' o
  | .nx _ _, h => fun σ a b g2 => h σ a b (g.trans g2)
  | .rt _ _, h => fun v a b g2 => h v a b (g.trans g2)
  | .bk _ _, h => fun σ a b g2 => h σ a b (g.trans g2)
  | .ct _ _, h => fun σ a b g2 => h σ a b (g.trans g2)
def SvP (K : PySem.W.Frag) (ps : List Addr) (ts : TS) (G : Env) (M : List Mu) (F : Oc → Prop) : Prop :=
  ∀ (D : Ends) (σ : L2.St) (H0 H : Hp), Same H0 H → EnvOk K H0 σ G → MOk K ps M H0 H → (∀ o, F o → Cont K ps D H0 H o) → ts D σ H

section
variable {K : PySem.W.Frag} {ps : List Addr} {G G' : Env} {M M1 M2 : List Mu} {te : TE} {tt : TT} {t u : TS} {F F' : Oc → Prop}
theorem SvP.imp (h : SvP K ps t G M F) (hF : ∀ o, F o → F' o) : SvP K ps t G M F' := fun D σ H0 H s e m q => h D σ H0 H s e m fun o fo => q o (hF o fo)
def thenF (K : PySem.W.Frag) (ps : List Addr) (u : TS) (F : Oc → Prop) : Oc → Prop
  | .nx G M => SvP K ps u G M F
  | o => F o
theorem sv_seq (h : SvP K ps t G M (thenF K ps u F)) : SvP K ps (tSeq t u) G M F := fun D σ H0 H s e m q =>
  h { D with nx := u D } σ H0 H s e m fun o fo => match o, fo with
    | .nx G1 M1, fo => fun σ' H0' H' g e' m' => fo D σ' H0' H' g.sub e' m' fun o' fo' => (q o' fo').after g
    | .rt r M1, fo => q (.rt r M1) fo
    | .bk G1 M1, fo => q (.bk G1 M1) fo
    | .ct G1 M1, fo => q (.ct G1 M1) fo
theorem sv_nil (h : F (.nx G M)) : SvP K ps tNext G M F := fun D σ H0 H s e m q => q _ h σ H0 H (Gr.refl s) e m
theorem sv_bk (h : F (.bk G M)) : SvP K ps tBreak G M F := fun D σ H0 H s e m q => q _ h σ H0 H (Gr.refl s) e m
theorem sv_ct (h : F (.ct G M)) : SvP K ps tCont G M F := fun D σ H0 H s e m q => q _ h σ H0 H (Gr.refl s) e m
theorem sv_ret {r : RD} (h : EvG K ps te G M r M1) (f : F (.rt r M1)) : SvP K ps (tRet te) G M F := fun D σ H0 H s e m q =>
  h σ H0 H _ s e m fun v H1 H1' g m1 d => q _ f v H1 H1' g m1 d
theorem sv_retN (f : F (.rt (.dat .none) M)) : SvP K ps tRetN G M F := fun D σ H0 H s e m q => q _ f .non H0 H (Gr.refl s) m Dq.non
theorem sv_drop {r : RD} (h : EvG K ps te G M r M1) (f : F (.nx G M1)) : SvP K ps (tDrop te) G M F := fun D σ H0 H s e m q =>
  h σ H0 H _ s e m fun v H1 H1' g m1 d => q _ f σ H1 H1' g (e.mono g.lo) m1
theorem sv_ifT (h : EtG K ps tt G M true M1) (f : SvP K ps t G M1 F) : SvP K ps (tIfS tt t u) G M F := fun D σ H0 H s e m q =>
  h σ H0 H _ s e m fun H1 H1' g m1 => iteT (f D σ H1 H1' g.sub (e.mono g.lo) m1 fun o fo => (q o fo).after g)
theorem sv_ifF (h : EtG K ps tt G M false M1) (f : SvP K ps u G M1 F) : SvP K ps (tIfS tt t u) G M F := fun D σ H0 H s e m q =>
  h σ H0 H _ s e m fun H1 H1' g m1 => iteF (f D σ H1 H1' g.sub (e.mono g.lo) m1 fun o fo => (q o fo).after g)
theorem sv_if {b : Bool} (h : EtG K ps tt G M b M1) (f1 : b = true → SvP K ps t G M1 F) (f2 : b = false → SvP K ps u G M1 F) : SvP K ps (tIfS tt t u) G M F := by
  cases b with
  | true => exact sv_ifT h (f1 rfl)
  | false => exact sv_ifF h (f2 rfl)

/-! ### targets -/
def TgG (K : PySem.W.Frag) (g : TG) (r : RD) (G G' : Env) : Prop := ∀ (v : V) (σ : L2.St) (H0 H : Hp) (Q : L2.St → Hp → Prop), Same H0 H → EnvOk K H0 σ G → Rv K H0 v r → (∀ σ', EnvOk K H0 σ' G' → Q σ' H) → g v σ H Q
def TgsG (K : PySem.W.Frag) (g : TGs) (ds : List PyData) (G G' : Env) : Prop := ∀ (vs : List V) (σ : L2.St) (H0 H : Hp) (Q : L2.St → Hp → Prop), Same H0 H → EnvOk K H0 σ G → DqAll K H0 vs ds → (∀ σ', EnvOk K H0 σ' G' → Q σ' H) → g vs σ H Q
theorem tg_name {i : Nat} {r : RD} : TgG K (gName i) r G (G.set i (some r)) := fun v σ H0 H Q s e h q => q _ (e.set i h)
theorem tgs_nil : TgsG K gNil [] G G := fun vs σ H0 H Q s e h q => by cases h; exact ⟨rfl, q _ e⟩
theorem tgs_cons {g : TG} {gs : TGs} {d : PyData} {ds : List PyData} {G1 : Env} (h1 : TgG K g (.dat d) G G1) (h2 : TgsG K gs ds G1 G') : TgsG K (gCons g gs) (d :: ds) G G' := fun vs σ H0 H Q s e h q => by
  cases h with
  | cons a b => exact ⟨_, _, rfl, h1 _ σ H0 H _ s e a fun σ' e' => h2 _ σ' H0 H Q s e' b q⟩
theorem tg_tup {n : Nat} {gs : TGs} {ds : List PyData} (h : TgsG K gs ds G G') (hn : ds.length = n := by rfl) : TgG K (gTup K n gs) (.dat (.tuple ds)) G G' := fun v σ H0 H Q s e hv q => by
  cases hv with
  | tup a b => exact ⟨_, _, rfl, same_t s a, b.length.trans hn, h _ σ H0 H Q s e b q⟩
theorem sv_asg {g : TG} {r : RD} (h : EvG K ps te G M r M1) (ht : TgG K g r G G') (f : F (.nx G' M1)) : SvP K ps (tAsg te g) G M F := fun D σ H0 H s e m q =>
  h σ H0 H _ s e m fun v H1 H1' gr m1 d => ht v σ H1 H1' _ gr.sub (e.mono gr.lo) d fun σ' e' => q _ f σ' H1 H1' gr e' m1
theorem sv_set {i : Nat} {r : RD} (h : EvG K ps te G M r M1) (f : F (.nx (G.set i (some r)) M1)) : SvP K ps (tAsg te (gName i)) G M F := sv_asg h tg_name f
theorem sv_set1 {i : Nat} {r : RD} (h : EvG K ps te G M r M1) (f : SvP K ps u (G.set i (some r)) M1 F) : SvP K ps (tSeq (tAsg te (gName i)) u) G M F := sv_seq (sv_set h f)
theorem sv_asg1 {g : TG} {r : RD} (h : EvG K ps te G M r M1) (ht : TgG K g r G G') (f : SvP K ps u G' M1 F) : SvP K ps (tSeq (tAsg te g) u) G M F := sv_seq (sv_asg h ht f)
theorem sv_par {i j : Nat} {ta : TA} {r r' : RD} (h : EaG K ps ta G M [r, r'] M1) (f : F (.nx ((G.set i (some r)).set j (some r')) M1)) : SvP K ps (tPar i j ta) G M F := fun D σ H0 H s e m q =>
  h σ H0 H _ s e m fun vs H1 H1' gr m1 d => by
    cases d with
    | cons a d =>
      cases d with
      | cons b d =>
        cases d
        exact ⟨_, _, rfl, q _ f _ H1 H1' gr (((e.mono gr.lo).set i a).set j b) m1⟩
theorem sv_par1 {i j : Nat} {ta : TA} {r r' : RD} (h : EaG K ps ta G M [r, r'] M1) (f : SvP K ps u ((G.set i (some r)).set j (some r')) M1 F) : SvP K ps (tSeq (tPar i j ta) u) G M F := sv_seq (sv_par h f)
theorem sv_drop1 {r : RD} (h : EvG K ps te G M r M1) (f : SvP K ps u G M1 F) : SvP K ps (tSeq (tDrop te) u) G M F := sv_seq (sv_drop h f)

/-! ### walks -/
def Yields (K : PySem.W.Frag) (J : It) (rs : List RD) (Hb : Hp) : Prop := ∀ H0 H, Same Hb H0 → Same H0 H →
  (∀ (i : Nat) (r : RD), rs[i]? = some r → J.go i H ∧ ∀ x H', J.yld i H x H' → ∃ H0', Gr Pure H0 H H0' H' ∧ Rv K H0' x r) ∧ J.stop rs.length H
def IvG (K : PySem.W.Frag) (ps : List Addr) (wi : TI) (G : Env) (M : List Mu) (rs : List RD) (M' : List Mu) : Prop :=
  ∀ (σ : L2.St) (H0 H : Hp) (R : It → Hp → Prop), Same H0 H → EnvOk K H0 σ G → MOk K ps M H0 H → (∀ J H0' H', Gr (Wn ps) H0 H H0' H' → MOk K ps M' H0' H' → Yields K J rs H0' → R J H') → wi σ H R
theorem dats_at {ds : List PyData} {i : Nat} {r : RD} (h : (ds.map RD.dat)[i]? = some r) : ∃ d, ds[i]? = some d ∧ r = .dat d := by
  rw [List.getElem?_map] at h
  cases e : ds[i]? with
  | none => rw [e] at h; cases h
  | some d => rw [e] at h; exact ⟨d, rfl, (Option.some.inj h).symm⟩
theorem iv_list {tl : TE} {ds : List PyData} (h : EvG K ps tl G M (.dat (.list ds)) M1) : IvG K ps (iList K tl) G M (ds.map .dat) M1 := fun σ H0 H R s e m q =>
  h σ H0 H _ s e m fun v H1 H1' g m1 d => by
    cases d with
    | lst a b =>
      refine ⟨_, rfl, ⟨_, SqL.of (g.sub _ _ a)⟩, q _ H1 H1' g m1 fun G0 G1 s1 s2 => ⟨fun i r hr => ?_, ?_⟩⟩
      · obtain ⟨d, hd, rfl⟩ := dats_at hr
        obtain ⟨v, hv, dv⟩ := b.at hd
        have hL : SqL K G1 _ _ := SqL.of (s2 _ _ (s1 _ _ a))
        refine ⟨⟨_, v, hL, hv⟩, fun x H' hy => ?_⟩
        obtain ⟨rfl, hx⟩ := hy
        have ex := (hx _ hL).symm.trans hv
        cases ex
        exact ⟨G0, Gr.refl s2, Dq.mono s1 _ _ dv⟩
      · exact ⟨_, SqL.of (s2 _ _ (s1 _ _ a)), by rw [List.length_map, b.length]; exact Nat.le_refl _⟩
theorem iv_tup {tl : TE} {ds : List PyData} (h : EvG K ps tl G M (.dat (.tuple ds)) M1) : IvG K ps (iTup K tl) G M (ds.map .dat) M1 := fun σ H0 H R s e m q =>
  h σ H0 H _ s e m fun v H1 H1' g m1 d => by
    cases d with
    | tup a b =>
      refine ⟨_, rfl, ⟨_, same_t g.sub a⟩, q _ H1 H1' g m1 fun G0 G1 s1 s2 => ⟨fun i r hr => ?_, ?_⟩⟩
      · obtain ⟨d, hd, rfl⟩ := dats_at hr
        obtain ⟨v, hv, dv⟩ := b.at hd
        have hL : SqT K G1 _ _ := same_t s2 (same_t s1 a)
        refine ⟨⟨_, v, hL, hv⟩, fun x H' hy => ?_⟩
        obtain ⟨rfl, hx⟩ := hy
        have ex := (hx _ hL).symm.trans hv
        cases ex
        exact ⟨G0, Gr.refl s2, Dq.mono s1 _ _ dv⟩
      · exact ⟨_, same_t s2 (same_t s1 a), by rw [List.length_map, b.length]; exact Nat.le_refl _⟩
/-- 0, 1, .., n - 1 -/
abbrev rngD (n : Nat) : List RD := (List.range n).map fun (i : Nat) => RD.dat (.int (i : Int))
theorem rngD_at {n i : Nat} {r : RD} (h : (rngD n)[i]? = some r) : i < n ∧ r = .dat (.int (i : Int)) := by
  rw [List.getElem?_map] at h
  by_cases hi : i < n
  · rw [List.getElem?_range hi] at h
    exact ⟨hi, (Option.some.inj h).symm⟩
  · rw [List.getElem?_eq_none (by rw [List.length_range]; omega)] at h
    cases h
theorem iv_rng1 {ta : TA} {n : Nat} (h : EaG K ps ta G M [.dat (.int (n : Int))] M1) (hn : n ≤ 1000000000) : IvG K ps (iRng1 ta) G M (rngD n) M1 := fun σ H0 H R s e m q =>
  h σ H0 H _ s e m fun vs H1 H1' g m1 d => by
    have d' := RvAll.dat (ds := [.int (n : Int)]) d
    cases d' with
    | cons a b =>
      cases a
      cases b
      refine ⟨_, rfl, by omega, by omega, q _ H1 H1' g m1 fun G0 G1 s1 s2 => ⟨fun i r hr => ?_, ?_⟩⟩
      · obtain ⟨hi, rfl⟩ := rngD_at hr
        refine ⟨(by show i < (n : Int).toNat; omega), fun x H' hy => ?_⟩
        obtain ⟨rfl, rfl⟩ := hy
        refine ⟨G0, Gr.refl s2, ?_⟩
        show Dq K G0 (.int ((0 : Int) + (i : Int))) (.int (i : Int))
        rw [Int.zero_add]
        exact .int _
      · rw [List.length_map, List.length_range]
        show (n : Int).toNat ≤ n
        omega

/-! ### for -/
def turnF (F : Oc → Prop) (P : Env → List Mu → Prop) : Oc → Prop
  | .nx G M => P G M
  | .ct G M => P G M
  | .bk G M => F (.nx G M)
  | .rt r M => F (.rt r M)
theorem sv_for {wi : TI} {g : TG} {tb : TS} {rs : List RD} (hi : IvG K ps wi G M rs M1) (Pv : Nat → Env → List Mu → Prop) (h0 : Pv 0 G M1)
    (hs : ∀ (i : Nat) (G' : Env) (M' : List Mu) (r : RD), rs[i]? = some r → Pv i G' M' → ∃ G2, TgG K g r G' G2 ∧ SvP K ps tb G2 M' (turnF F (Pv (i + 1))))
    (hd : ∀ G' M', Pv rs.length G' M' → F (.nx G' M')) : SvP K ps (tFor wi g tb) G M F := fun D σ H0 H s e m q =>
  hi σ H0 H _ s e m fun J H1 H1' gr m1 y => by
    refine ⟨fun i mm σ' H' => mm = rs.length - i ∧ i ≤ rs.length ∧ ∃ G' M' H0', Gr (Wn ps) H1 H1' H0' H' ∧ EnvOk K H0' σ' G' ∧ MOk K ps M' H0' H' ∧ Pv i G' M', ⟨rs.length, rfl, Nat.zero_le _, G, M1, H1, Gr.refl gr.sub, e.mono gr.lo, m1, h0⟩, ?_⟩
    rintro i mm σ' H' ⟨rfl, hle, G', M', H0', g1, e1, m1', pv⟩
    obtain ⟨y1, y2⟩ := y H0' H' g1.lo g1.sub
    by_cases hlt : i < rs.length
    · have hr : rs[i]? = some rs[i] := List.getElem?_eq_getElem hlt
      obtain ⟨go, yld⟩ := y1 i _ hr
      obtain ⟨G2, ht, hb⟩ := hs i G' M' _ hr pv
      refine .inr ⟨go, fun σ2 H2 => ∃ G' M' H0', Gr (Wn ps) H1 H1' H0' H2 ∧ EnvOk K H0' σ2 G' ∧ MOk K ps M' H0' H2 ∧ Pv (i + 1) G' M', fun σ2 H2 ⟨G3, M3, H3, a, b, c, d⟩ => ⟨rs.length - (i + 1), by omega, rfl, hlt, G3, M3, H3, a, b, c, d⟩, fun x H2 hy => ?_⟩
      obtain ⟨H02, g2, rx⟩ := yld x H2 hy
      refine ht x σ' H02 H2 _ g2.sub (e1.mono g2.lo) rx fun σ3 e3 => ?_
      have gg : Gr (Wn ps) H1 H1' H02 H2 := g1.trans g2.pure
      refine hb _ σ3 H02 H2 g2.sub e3 (m1'.keep g2 fun _ _ z => z) fun o fo => ?_
      cases o with
      | nx G3 M3 => exact fun σ4 H4 H4' g4 e4 m4 => ⟨G3, M3, H4, gg.trans g4, e4, m4, fo⟩
      | ct G3 M3 => exact fun σ4 H4 H4' g4 e4 m4 => ⟨G3, M3, H4, gg.trans g4, e4, m4, fo⟩
      | bk G3 M3 => exact (q _ fo).after (gr.trans gg)
      | rt r M3 => exact (q _ fo).after (gr.trans gg)
    · have ei : i = rs.length := by omega
      subst ei
      exact .inl ⟨y2, q _ (hd _ _ pv) σ' H0' H' (gr.trans g1) e1 m1'⟩
/-! ### while: the measure, then what holds -/
theorem sv_while {tc : TT} {tb : TS} (Pv : Nat → Env → List Mu → Prop) (m0 : Nat) (h0 : Pv m0 G M)
    (hs : ∀ (n : Nat) (G' : Env) (M' : List Mu), Pv n G' M' → ∃ b M2, EtG K ps tc G' M' b M2 ∧ (b = true → SvP K ps tb G' M2 (turnF F fun G3 M3 => ∃ n', n' < n ∧ Pv n' G3 M3)) ∧ (b = false → F (.nx G' M2))) : SvP K ps (tWhile tc tb) G M F := fun D σ H0 H s e m q => by
  refine ⟨fun n σ' H' => ∃ G' M' H0', Gr (Wn ps) H0 H H0' H' ∧ EnvOk K H0' σ' G' ∧ MOk K ps M' H0' H' ∧ Pv n G' M', ⟨m0, G, M, H0, Gr.refl s, e, m, h0⟩, ?_⟩
  rintro n σ' H' ⟨G', M', H0', g1, e1, m1, pv⟩
  obtain ⟨b, M2, hc, hT, hF⟩ := hs n G' M' pv
  refine hc σ' H0' H' _ g1.sub e1 m1 fun H2 H2' g2 m2 => ?_
  cases b with
  | true =>
    refine iteT ⟨fun σ2 H2 => ∃ n', n' < n ∧ ∃ G' M' H0', Gr (Wn ps) H0 H H0' H2 ∧ EnvOk K H0' σ2 G' ∧ MOk K ps M' H0' H2 ∧ Pv n' G' M', fun σ2 H2 ⟨n', a, b⟩ => ⟨n', a, b⟩, ?_⟩
    refine hT rfl _ σ' H2 H2' g2.sub (e1.mono g2.lo) m2 fun o fo => ?_
    cases o with
    | nx G3 M3 => exact fun σ4 H4 H4' g4 e4 m4 => let ⟨n', a, b⟩ := fo; ⟨n', a, G3, M3, H4, (g1.trans g2).trans g4, e4, m4, b⟩
    | ct G3 M3 => exact fun σ4 H4 H4' g4 e4 m4 => let ⟨n', a, b⟩ := fo; ⟨n', a, G3, M3, H4, (g1.trans g2).trans g4, e4, m4, b⟩
    | bk G3 M3 => exact (q _ fo).after (g1.trans g2)
    | rt r M3 => exact (q _ fo).after (g1.trans g2)
  | false => exact iteF (q _ (hF rfl) σ' H2 H2' (g1.trans g2) (e1.mono g2.lo) m2)
end
end Wp
end
section
set_option Elab.async false
set_option linter.all false
set_option maxRecDepth 100000
set_option maxHeartbeats 2000000
/-! WpC: comprehensions, calls, owned lists -/
namespace Wp
open PySem L2

def wipeE (G : Env) : List Nat → Env
  | [] => G
  | v :: vs => (wipeE G vs).set v none
theorem wipeE_length (G : Env) : ∀ vs : List Nat, (wipeE G vs).length = G.length
  | [] => rfl
  | v :: vs => by unfold wipeE; rw [List.length_set, wipeE_length G vs]
theorem EnvOk.forget {K : PySem.W.Frag} {H : Hp} {σ : L2.St} {G : Env} (i : Nat) (h : EnvOk K H σ G) : EnvOk K H (σ.set i none) (G.set i none) := by
  refine ⟨by rw [List.length_set, List.length_set]; exact h.len, fun j q e => ?_⟩
  by_cases hj : i = j
  · subst hj
    rw [List.getElem?_set] at e
    rw [if_pos rfl] at e
    split at e
    · cases Option.some.inj e
    · cases e
  · rw [List.getElem?_set_ne hj] at e ⊢
    exact h.at' j q e
theorem EnvOk.wipe {K : PySem.W.Frag} {H : Hp} {σ : L2.St} {G : Env} (h : EnvOk K H σ G) : ∀ vs : List Nat, EnvOk K H (L2.wipe σ vs) (wipeE G vs)
  | [] => h
  | v :: vs => (EnvOk.wipe h vs).forget v
theorem wipe_set {σ : L2.St} {i : Nat} {y : Option V} : ∀ {vs : List Nat}, i ∈ vs → L2.wipe (σ.set i y) vs = L2.wipe σ vs
  | v :: vs, h => by
    unfold L2.wipe
    by_cases hv : i ∈ vs
    · rw [wipe_set hv]
    · have e : i = v := by
        rcases List.mem_cons.mp h with e | e
        · exact e
        · exact absurd e hv
      subst e
      rw [wipe_comm hv, List.set_set]
where
  wipe_comm {σ : L2.St} {i : Nat} {y : Option V} : ∀ {vs : List Nat}, i ∉ vs → L2.wipe (σ.set i y) vs = (L2.wipe σ vs).set i y
  | [], _ => rfl
  | v :: vs, h => by
    have h1 : i ≠ v := fun e => h (by rw [e]; exact List.mem_cons_self)
    have h2 : i ∉ vs := fun m => h (List.mem_cons_of_mem _ m)
    unfold L2.wipe
    rw [wipe_comm h2, List.set_comm _ _ h1]
theorem wipe_wipe {σ : L2.St} : ∀ {vs ws : List Nat}, (∀ v ∈ vs, v ∈ ws) → L2.wipe (L2.wipe σ vs) ws = L2.wipe σ ws
  | [], _, _ => rfl
  | v :: vs, ws, h => by
    show L2.wipe ((L2.wipe σ vs).set v none) ws = _
    rw [wipe_set (h v List.mem_cons_self), wipe_wipe fun u hu => h u (List.mem_cons_of_mem _ hu)]

/-- a target within a block: only the block's own slots -/
def TgW (K : PySem.W.Frag) (vs : List Nat) (g : TG) (r : RD) (G G' : Env) : Prop := ∀ (v : V) (σ : L2.St) (H0 H : Hp) (Q : L2.St → Hp → Prop), Same H0 H → EnvOk K H0 σ G → Rv K H0 v r → (∀ σ', EnvOk K H0 σ' G' → L2.wipe σ' vs = L2.wipe σ vs → Q σ' H) → g v σ H Q
def TgsW (K : PySem.W.Frag) (ws : List Nat) (g : TGs) (ds : List PyData) (G G' : Env) : Prop := ∀ (vs : List V) (σ : L2.St) (H0 H : Hp) (Q : L2.St → Hp → Prop), Same H0 H → EnvOk K H0 σ G → DqAll K H0 vs ds → (∀ σ', EnvOk K H0 σ' G' → L2.wipe σ' ws = L2.wipe σ ws → Q σ' H) → g vs σ H Q
section
variable {K : PySem.W.Frag} {ps : List Addr} {G G' : Env} {M M1 M2 : List Mu} {vs : List Nat}
theorem tw_name {i : Nat} {r : RD} (h : i ∈ vs := by decide) : TgW K vs (gName i) r G (G.set i (some r)) := fun v σ H0 H Q s e hv q => q _ (e.set i hv) (wipe_set h)
theorem tws_nil : TgsW K vs gNil [] G G := fun us σ H0 H Q s e h q => by cases h; exact ⟨rfl, q _ e rfl⟩
theorem tws_cons {g : TG} {gs : TGs} {d : PyData} {ds : List PyData} {G1 : Env} (h1 : TgW K vs g (.dat d) G G1) (h2 : TgsW K vs gs ds G1 G') : TgsW K vs (gCons g gs) (d :: ds) G G' := fun us σ H0 H Q s e h q => by
  cases h with
  | cons a b => exact ⟨_, _, rfl, h1 _ σ H0 H _ s e a fun σ' e' w' => h2 _ σ' H0 H Q s e' b fun σ2 e2 w2 => q σ2 e2 (w2.trans w')⟩
theorem tw_tup {n : Nat} {gs : TGs} {ds : List PyData} (h : TgsW K vs gs ds G G') (hn : ds.length = n := by rfl) : TgW K vs (gTup K n gs) (.dat (.tuple ds)) G G' := fun v σ H0 H Q s e hv q => by
  cases hv with
  | tup a b => exact ⟨_, _, rfl, same_t s a, b.length.trans hn, h _ σ H0 H Q s e b q⟩

/-! ### a list that grows beside the pure part -/
structure Grow (K : PySem.W.Frag) (ps : List Addr) (H0 H : Hp) (D : Addr) (G : Env) (σ : L2.St) (M : List Mu) (ds : List PyData) (H' : Hp) : Prop where
  ex : ∃ H0' acc, Gr (Wn ps) H0 H H0' H' ∧ H0' D = none ∧ H' D = some (.lst acc) ∧ DqAll K H0' acc ds ∧ EnvOk K H0' σ G ∧ MOk K ps M H0' H'
theorem Grow.start {H0 H : Hp} {D : Addr} {σ : L2.St} (s : Same H0 H) (e : EnvOk K H0 σ G) (m : MOk K ps M H0 H) (hD : H D = none) : Grow K ps H0 (upd H D (.lst [])) D G σ M [] (upd H D (.lst [])) := by
  have g : Gr Pure H0 H H0 (upd H D (.lst [])) := Gr.newM s hD
  have h0 : H0 D = none := by
    cases q : H0 D with
    | none => rfl
    | some o => rw [s _ _ q] at hD; cases hD
  exact ⟨H0, [], Gr.refl g.sub, h0, upd_same, .nil, e, m.keep g fun _ _ z => z⟩
end

/-! ### [e for x in ..] -/
section
variable {K : PySem.W.Frag} {ps : List Addr} {G G' : Env} {M M1 M2 : List Mu} {vs : List Nat} {wi : TI} {g : TG} {tt : TT} {te : TE}
theorem put_keep {H0 H : Hp} {D : Addr} {o : HO} (m : MOk K ps M H0 H) (hD : D ∉ ps) : MOk K ps M H0 (upd H D o) :=
  ⟨m.nd, m.len, fun p hp => ⟨(m.out p hp).1, fun z => by
    have hne : p ≠ D := fun e => hD (e ▸ hp)
    rw [upd_ne hne] at z
    exact (m.out p hp).2 z⟩, fun j p x e1 e2 => (m.at' j p x e1 e2).keep (Same.refl _) fun o h => by
    have hne : p ≠ D := fun e => hD (e ▸ List.mem_of_getElem? e1)
    rw [upd_ne hne]
    exact h⟩
/-- the list's end: it joins the pure part -/
theorem grow_end {H0 H H0' H' : Hp} {D : Addr} {acc : List V} {ds : List PyData} (s : Same H0 H) (hD : H D = none) (hDp : D ∉ ps) (g0 : Gr (Wn ps) H0 (upd H D (.lst [])) H0' H') (h0 : H0' D = none) (hd : H' D = some (.lst acc)) (ha : DqAll K H0' acc ds) (m : MOk K ps M H0' H') :
    Gr (Wn ps) H0 H (upd H0' D (.lst acc)) H' ∧ MOk K ps M (upd H0' D (.lst acc)) H' ∧ Dq K (upd H0' D (.lst acc)) (.ref D) (.list ds) := by
  have s2 : Same H0' (upd H0' D (.lst acc)) := fun a u e => by rw [upd_ne (ne_of_none e h0)]; exact e
  have nD : ∀ a, H a ≠ none → a ≠ D := fun a n z => n (by rw [z]; exact hD)
  refine ⟨⟨g0.lo.trans s2, fun a o hw e => g0.hi a o hw (by rw [upd_ne (ne_of_none e hD)]; exact e), fun a e n => ?_, fun a n => g0.th a (by rw [upd_ne (nD a n)]; exact n), fun a u e => ?_⟩, ?_, .lst upd_same (DqAll.mono s2 _ _ ha)⟩
  · rw [upd_ne (nD a n)]
    exact g0.fr a e (by rw [upd_ne (nD a n)]; exact n)
  · by_cases hz : a = D
    · subst hz; rw [upd_same] at e; rw [hd]; exact e
    · rw [upd_ne hz] at e; exact g0.sub a u e
  · refine ⟨m.nd, m.len, fun p hp => ?_, fun j p x e1 e2 => (m.at' j p x e1 e2).keep s2 fun o h => h⟩
    have hne : p ≠ D := fun e => hDp (e ▸ hp)
    rw [upd_ne hne]
    exact m.out p hp
theorem fresh_ps {H0 H : Hp} {D : Addr} (m : MOk K ps M H0 H) (hD : H D = none) : D ∉ ps := fun z => (m.out D z).2 hD
/-- the list at D gets one more -/
theorem grow_put {H0 H H0' H' : Hp} {D : Addr} {acc : List V} {y : V} {ds : List PyData} {d : PyData} {σ : L2.St} (g0 : Gr (Wn ps) H0 H H0' H') (hn : H0 D = none) (hDp : D ∉ ps) (hH : H D ≠ none) (hd : H' D = some (.lst acc)) (h0 : H0' D = none) (ha : DqAll K H0' acc ds) (hy : Dq K H0' y d) (e : EnvOk K H0' σ G) (m : MOk K ps M H0' H') :
    Gr (fun a => a ∈ ps ∨ a = D) H0 H H0' (upd H' D (.lst (acc ++ [y]))) ∧ (upd H' D (.lst (acc ++ [y]))) D = some (.lst (acc ++ [y])) ∧ DqAll K H0' (acc ++ [y]) (ds ++ [d]) ∧ EnvOk K H0' σ G ∧ MOk K ps M H0' (upd H' D (.lst (acc ++ [y]))) :=
  ⟨(g0.mono fun _ z => .inl z).trans (Gr.put g0.sub (.inr rfl) h0), upd_same, DqAll.append ha (.cons hy .nil), e, put_keep m hDp⟩

def outs (out : Nat → Option PyData) (n : Nat) : List PyData := (List.range n).filterMap out
theorem outs_succ (out : Nat → Option PyData) (n : Nat) : outs out (n + 1) = outs out n ++ (out n).toList := by
  unfold outs
  rw [List.range_succ, List.filterMap_append]
  congr 1
theorem outs_le (out : Nat → Option PyData) (n : Nat) : (outs out n).length ≤ n := by
  unfold outs
  have := List.length_filterMap_le out (List.range n)
  rwa [List.length_range] at this
/-- what is so within a comprehension's loop: D's list beside the pure part -/
def LcW (K : PySem.W.Frag) (ps : List Addr) (D : Addr) (H1 H1' : Hp) (G : Env) (σ : L2.St) (M : List Mu) (ds : List PyData) (H' : Hp) : Prop :=
  ∃ H0' acc, Gr (fun a => a ∈ ps ∨ a = D) H1 (upd H1' D (.lst [])) H0' H' ∧ H0' D = none ∧ H' D = some (.lst acc) ∧ DqAll K H0' acc ds ∧ EnvOk K H0' σ G ∧ MOk K ps M H0' H'
theorem lcw_start {H1 H1' : Hp} {D : Addr} {σ : L2.St} (s : Same H1 H1') (e : EnvOk K H1 σ G) (m : MOk K ps M H1 H1') (hD : H1' D = none) : LcW K ps D H1 H1' G σ M [] (upd H1' D (.lst [])) := by
  have g : Gr Pure H1 H1' H1 (upd H1' D (.lst [])) := Gr.newM s hD
  have h0 : H1 D = none := by
    cases q : H1 D with
    | none => rfl
    | some o => rw [s _ _ q] at hD; cases hD
  exact ⟨H1, [], Gr.refl g.sub, h0, upd_same, .nil, e, m.keep g fun _ _ z => z⟩
theorem lcw_end {H1 H1' H' : Hp} {D : Addr} {σ : L2.St} {ds : List PyData} (s : Same H1 H1') (hD : H1' D = none) (hDp : D ∉ ps) (h : LcW K ps D H1 H1' G σ M ds H') :
    ∃ H0', Gr (Wn ps) H1 H1' H0' H' ∧ MOk K ps M H0' H' ∧ Dq K H0' (.ref D) (.list ds) := by
  obtain ⟨H0', acc, g, h0, hd, ha, e, m⟩ := h
  have s2 : Same H0' (upd H0' D (.lst acc)) := fun a u e => by rw [upd_ne (ne_of_none e h0)]; exact e
  have nD : ∀ a, H1' a ≠ none → a ≠ D := fun a n z => n (by rw [z]; exact hD)
  refine ⟨upd H0' D (.lst acc), ⟨g.lo.trans s2, fun a o hw e => ?_, fun a e n => ?_, fun a n => g.th a (by rw [upd_ne (nD a n)]; exact n), fun a u e => ?_⟩, ?_, .lst upd_same (DqAll.mono s2 _ _ ha)⟩
  · have hne : a ≠ D := ne_of_none e hD
    exact g.hi a o (fun z => z.elim hw hne) (by rw [upd_ne hne]; exact e)
  · rw [upd_ne (nD a n)]
    exact g.fr a e (by rw [upd_ne (nD a n)]; exact n)
  · by_cases hz : a = D
    · subst hz; rw [upd_same] at e; rw [hd]; exact e
    · rw [upd_ne hz] at e; exact g.sub a u e
  · refine ⟨m.nd, m.len, fun p hp => ?_, fun j p x e1 e2 => (m.at' j p x e1 e2).keep s2 fun o h => h⟩
    have hne : p ≠ D := fun e => hDp (e ▸ hp)
    rw [upd_ne hne]
    exact m.out p hp
/-- the pure part and the whole have grown within the loop -/
theorem lcw_step {H1 H1' H0' H' H02 H2 : Hp} {D : Addr} {acc : List V} {ds : List PyData} {σ : L2.St} (hDp : D ∉ ps) (g : Gr (fun a => a ∈ ps ∨ a = D) H1 (upd H1' D (.lst [])) H0' H') (h0 : H0' D = none) (hd : H' D = some (.lst acc)) (ha : DqAll K H0' acc ds) (g2 : Gr (Wn ps) H0' H' H02 H2) (e : EnvOk K H0' σ G) (m : MOk K ps M H02 H2) :
    Gr (fun a => a ∈ ps ∨ a = D) H1 (upd H1' D (.lst [])) H02 H2 ∧ H02 D = none ∧ H2 D = some (.lst acc) ∧ DqAll K H02 acc ds ∧ EnvOk K H02 σ G ∧ MOk K ps M H02 H2 :=
  ⟨g.trans (g2.mono fun _ z => .inl z), g2.fr D h0 (by rw [hd]; exact fun z => nomatch z), g2.hi D _ hDp hd, DqAll.mono g2.lo _ _ ha, e.mono g2.lo, m⟩
theorem ev_lc {rs : List RD} (hi : IvG K ps wi G M rs M1) (Ms : Nat → List Mu) (out : Nat → Option PyData) (hM : Ms 0 = M1)
    (hs : ∀ (i : Nat) (r : RD), rs[i]? = some r → ∃ G', TgW K vs g r (wipeE G vs) G' ∧ ∃ b M2, EtG K ps tt G' (Ms i) b M2 ∧ (b = true → ∃ d, out i = some d ∧ EvG K ps te G' M2 (.dat d) (Ms (i + 1))) ∧ (b = false → out i = none ∧ M2 = Ms (i + 1)))
    (hn : rs.length ≤ 1000000 := by decide) : EvG K ps (tLc wi g tt te vs) G M (.dat (.list (outs out rs.length))) (Ms rs.length) := fun σ H0 H Q s e m q =>
  hi σ H0 H _ s e m fun J H1 H1' gr m1 y D hD => by
    have hDp := fresh_ps m1 hD
    have e1 : EnvOk K H1 σ G := e.mono gr.lo
    refine ⟨fun i mm H' => mm = rs.length - i ∧ i ≤ rs.length ∧ LcW K ps D H1 H1' G σ (Ms i) (outs out i) H', ⟨rs.length, rfl, Nat.zero_le _, lcw_start gr.sub e1 (by rw [hM]; exact m1) hD⟩, ?_⟩
    rintro i mm H' ⟨rfl, hle, w⟩
    obtain ⟨H0', acc, g1, h0, hd, ha, e2, m2⟩ := id w
    obtain ⟨y1, y2⟩ := y H0' H' g1.lo g1.sub
    by_cases hlt : i < rs.length
    · have hr : rs[i]? = some rs[i] := List.getElem?_eq_getElem hlt
      obtain ⟨go, yld⟩ := y1 i _ hr
      obtain ⟨G', ht, b, M2, hb, hT, hF⟩ := hs i _ hr
      refine .inr ⟨go, LcW K ps D H1 H1' G σ (Ms (i + 1)) (outs out (i + 1)), fun H3 w3 => ⟨rs.length - (i + 1), by omega, rfl, hlt, w3⟩, fun x H3 hy => ?_⟩
      obtain ⟨H03, g3, rx⟩ := yld x H3 hy
      obtain ⟨g4, h04, hd4, ha4, e4, m4⟩ := lcw_step hDp g1 h0 hd ha g3.pure e2 (m2.keep g3 fun _ _ z => z)
      refine ht x (L2.wipe σ vs) H03 H3 _ g3.sub (e4.wipe vs) rx fun σ5 e5 w5 => ⟨?_, ?_⟩
      · rw [w5, wipe_wipe fun _ z => z]
      · refine hb σ5 H03 H3 _ g3.sub e5 m4 fun H6 H6' g6 m6 => ?_
        obtain ⟨g7, h07, hd7, ha7, e7, m7⟩ := lcw_step hDp g4 h04 hd4 ha4 g6 e4 m6
        cases b with
        | true =>
          obtain ⟨d, ho, hv⟩ := hT rfl
          refine iteT (hv σ5 H6 H6' _ g6.sub (e5.mono g6.lo) m6 fun v H8 H8' g8 m8 dv => ?_)
          obtain ⟨g9, h09, hd9, ha9, e9, m9⟩ := lcw_step hDp g7 h07 hd7 ha7 g8 e7 m8
          refine ⟨acc, hd9, ?_, H8, acc ++ [v], g9.trans (Gr.put g9.sub (.inr rfl) h09), h09, upd_same, ?_, e9, put_keep m9 hDp⟩
          · have l1 := ha9.length
            have l2 := outs_le out i
            rw [sizeLine_eq]
            omega
          · rw [outs_succ, ho]
            exact DqAll.append ha9 (.cons dv .nil)
        | false =>
          obtain ⟨ho, hM2⟩ := hF rfl
          refine iteF ⟨H6, acc, g7, h07, hd7, ?_, e7, by rw [← hM2]; exact m7⟩
          rw [outs_succ, ho]
          show DqAll K H6 acc (outs out i ++ [])
          rw [List.append_nil]
          exact ha7
    · have ei : i = rs.length := by omega
      subst ei
      obtain ⟨H0e, ge, me, de⟩ := lcw_end gr.sub hD hDp w
      exact .inl ⟨y2, q _ H0e H' (gr.trans ge) me de⟩
/-- .. of a list of things, nothing owned is changed -/
theorem outs_map {α : Type} (xs : List α) (p : α → Bool) (f : α → PyData) : outs (fun i => match xs[i]? with | some x => if p x = true then some (f x) else none | none => none) xs.length = (xs.filter p).map f := by
  have h : ∀ n, n ≤ xs.length → outs (fun i => match xs[i]? with | some x => if p x = true then some (f x) else none | none => none) n = ((xs.take n).filter p).map f := by
    intro n
    induction n with
    | zero => intro _; rfl
    | succ n ih =>
      intro hn
      have hx : xs[n]? = some xs[n] := List.getElem?_eq_getElem hn
      rw [outs_succ, ih (by omega), List.take_add_one, hx, List.filter_append, List.map_append]
      congr 1
      by_cases hp : p xs[n] = true
      · simp [hp]
      · simp [hp]
  have := h xs.length (Nat.le_refl _)
  rwa [List.take_length] at this
theorem ev_lcP {α : Type} (xs : List α) (enc : α → RD) (p : α → Bool) (f : α → PyData) (hi : IvG K ps wi G M (xs.map enc) M1)
    (hs : ∀ (x : α), x ∈ xs → ∃ G', TgW K vs g (enc x) (wipeE G vs) G' ∧ EtG K ps tt G' M1 (p x) M1 ∧ (p x = true → EvG K ps te G' M1 (.dat (f x)) M1))
    (hn : xs.length ≤ 1000000) : EvG K ps (tLc wi g tt te vs) G M (.dat (.list ((xs.filter p).map f))) M1 := by
  rw [← outs_map]
  have e : (xs.map enc).length = xs.length := List.length_map ..
  have h := ev_lc (g := g) (tt := tt) (te := te) (vs := vs) hi (fun _ => M1) (fun i => match xs[i]? with | some x => if p x = true then some (f x) else none | none => none) rfl (fun i r hr => ?_) (by rw [e]; exact hn)
  · rw [e] at h
    exact h
  · rw [List.getElem?_map] at hr
    cases hx : xs[i]? with
    | none => rw [hx] at hr; cases hr
    | some x =>
      rw [hx] at hr
      have hr' := Option.some.inj hr
      subst hr'
      obtain ⟨G', h1, h2, h3⟩ := hs x (List.mem_of_getElem? hx)
      refine ⟨G', h1, p x, M1, h2, fun hp => ⟨f x, ?_, h3 hp⟩, fun hp => ⟨?_, rfl⟩⟩
      · show (if p x = true then some (f x) else none) = some (f x)
        rw [if_pos hp]
      · show (if p x = true then some (f x) else none) = none
        rw [hp]
        rfl
theorem et_yes : EtG K ps tYes G M true M := fun σ H0 H Q s e m q => q H0 H (Gr.refl s) m
/-- no test -/
theorem ev_lcM {α : Type} (xs : List α) (enc : α → RD) (f : α → PyData) (hi : IvG K ps wi G M (xs.map enc) M1)
    (hs : ∀ (x : α), x ∈ xs → ∃ G', TgW K vs g (enc x) (wipeE G vs) G' ∧ EvG K ps te G' M1 (.dat (f x)) M1)
    (hn : xs.length ≤ 1000000) : EvG K ps (tLc wi g tYes te vs) G M (.dat (.list (xs.map f))) M1 := by
  have h := ev_lcP (g := g) (tt := tYes) (te := te) (vs := vs) xs enc (fun _ => true) f hi (fun x hx => ?_) hn
  · rw [List.filter_eq_self.mpr (fun _ _ => rfl)] at h
    exact h
  · obtain ⟨G', h1, h2⟩ := hs x hx
    exact ⟨G', h1, et_yes, fun _ => h2⟩

/-! ### calls -/
def spD (K : PySem.W.Frag) (F : List RD → RD → Prop) : Sp := fun vs H Q _ => rDs K F vs H Q
theorem ev_call {F : List RD → RD → Prop} {t : TA} {E : XK} {ds : List RD} {d : RD} (ha : EaG K ps t G M ds M1) (h : F ds d) : EvG K ps (tCall (spD K F) [] E t) G M d M1 := fun σ H0 H Q s e m q =>
  ha σ H0 H _ s e m fun xs H1 H1' g1 m1 d1 => ⟨H1, ds, d, g1.sub, by rw [List.append_nil]; exact d1, h, out_at m1 fun v H3 H3' g3 m3 d3 => q v H3 H3' (g1.trans g3) m3 d3⟩
/-- a def's body: it hands back r -/
theorem body_end {N : List Str} {vs : List V} {H H0 : Hp} {Q : VK} {rs : List RD} {r : RD} {t : TS} (s : Same H0 H) (hd : RvAll K H0 vs rs) (q : Out K H0 H r Q)
    (h : SvP K [] t (rs.map some ++ List.replicate (N.length - rs.length) none) [] (fun o => o = .rt r [])) : t { nx := fun _ H' => Q .non H', rt := Q } (L2.start N vs) H := by
  refine h _ _ H0 H s (EnvOk.start N hd) MOk.nil fun o ho => ?_
  subst ho
  exact fun v H0' H' g m dv => q v H0' H' (g.mono fun _ z => nomatch z) dv
/-- a def's body that comes to its end: None -/
theorem body_endN {N : List Str} {vs : List V} {H H0 : Hp} {Q : VK} {rs : List RD} {t : TS} (s : Same H0 H) (hd : RvAll K H0 vs rs) (q : Out K H0 H (.dat .none) Q)
    (h : SvP K [] t (rs.map some ++ List.replicate (N.length - rs.length) none) [] (fun o => (∃ G, o = .nx G []) ∨ o = .rt (.dat .none) [])) : t { nx := fun _ H' => Q .non H', rt := Q } (L2.start N vs) H := by
  refine h _ _ H0 H s (EnvOk.start N hd) MOk.nil fun o ho => ?_
  rcases ho with ⟨G, rfl⟩ | rfl
  · exact fun σ' H0' H' g e m => q .non H0' H' (g.mono fun _ z => nomatch z) Dq.non
  · exact fun v H0' H' g m dv => q v H0' H' (g.mono fun _ z => nomatch z) dv
end
end Wp
end
section
set_option Elab.async false
set_option linter.all false
set_option maxRecDepth 100000
set_option maxHeartbeats 2000000
/-! WpD: the operations by data -/
namespace Wp
open PySem L2

def big : Nat := 1000000
theorem big_le {n : Nat} (h : n ≤ big) : n ≤ sizeLine := by rw [sizeLine_eq]; unfold big at h; omega
section
variable {X : Cx}

/-! ### + - * % // ** -/
def dAdd : RD → RD → RD → Prop
  | .dat (.int i), .dat (.int j), d => d = .dat (.int (i + j))
  | .dat (.list xs), .dat (.list ys), d => d = .dat (.list (xs ++ ys)) ∧ xs.length + ys.length ≤ big
  | .dat (.tuple xs), .dat (.tuple ys), d => d = .dat (.tuple (xs ++ ys)) ∧ xs.length + ys.length ≤ big
  | .dat (.str x), .dat (.str y), d => d = .dat (.str (x ++ y)) ∧ x.length + y.length ≤ big
  | _, _, _ => False
theorem oD_add : OpR X (binaryOp .Add) (rD2 X.K dAdd) := by
  intro pins s σ H x y v u Q I rx ry h
  obtain ⟨H0, a, b, d, s0, ha, hb, hf, q⟩ := h
  cases a with
  | raw _ => exact hf.elim
  | ob _ => exact hf.elim
  | sq _ => exact hf.elim
  | dat a =>
    cases b with
    | raw _ => cases a <;> exact hf.elim
    | ob _ => cases a <;> exact hf.elim
    | sq _ => cases a <;> exact hf.elim
    | dat b =>
      cases a with
      | int i =>
        cases b with
        | int j =>
          have e : d = .dat (.int (i + j)) := hf
          subst e
          cases ha; cases hb
          exact op_add pins s σ H _ _ v u Q I rx ry ⟨_, _, rfl, rfl, q.now s0 (Dq.int _)⟩
        | _ => exact hf.elim
      | list xs =>
        cases b with
        | list ys =>
          obtain ⟨rfl, hl⟩ : d = .dat (.list (xs ++ ys)) ∧ xs.length + ys.length ≤ big := hf
          cases ha with
          | lst a1 a2 =>
            cases hb with
            | lst b1 b2 =>
              exact op_cat pins s σ H _ _ v u Q I rx ry ⟨_, _, _, _, rfl, rfl, s0 _ _ a1, s0 _ _ b1, by rw [a2.length, b2.length]; exact big_le hl, q.lst s0 (a2.append b2)⟩
        | _ => exact hf.elim
      | tuple xs =>
        cases b with
        | tuple ys =>
          obtain ⟨rfl, hl⟩ : d = .dat (.tuple (xs ++ ys)) ∧ xs.length + ys.length ≤ big := hf
          cases ha with
          | tup a1 a2 =>
            cases hb with
            | tup b1 b2 =>
              refine op_catA pins s σ H _ _ v u Q I rx ry ⟨_, _, _, _, rfl, rfl, same_t s0 a1, same_t s0 b1, by rw [a2.length, b2.length]; exact big_le hl, fun e => ?_, fun _ e => ?_, fun _ _ => q.tup s0 (a2.append b2)⟩
              · subst e
                cases a2
                exact q.now s0 (Dq.tup b1 b2)
              · subst e
                cases b2
                rw [List.append_nil] at q
                exact q.now s0 (Dq.tup a1 a2)
        | _ => exact hf.elim
      | str x' =>
        cases b with
        | str y' =>
          obtain ⟨rfl, hl⟩ : d = .dat (.str (x' ++ y')) ∧ x'.length + y'.length ≤ big := hf
          cases ha; cases hb
          exact op_add_str pins s σ H _ _ v u Q I rx ry ⟨_, _, rfl, rfl, big_le hl, q.now s0 (Dq.str _)⟩
        | _ => exact hf.elim
      | _ => exact hf.elim
/-- two ints, by a rule of theirs -/
def dI (C : Int → Int → Prop) (g : Int → Int → PyData) : RD → RD → RD → Prop
  | .dat (.int i), .dat (.int j), d => C i j ∧ d = .dat (g i j)
  | _, _, _ => False
theorem dI_inv {C : Int → Int → Prop} {g : Int → Int → PyData} {a b d : RD} (h : dI C g a b d) : ∃ i j, a = .dat (.int i) ∧ b = .dat (.int j) ∧ C i j ∧ d = .dat (g i j) := by
  unfold dI at h
  split at h
  · exact ⟨_, _, rfl, rfl, h⟩
  · exact h.elim
theorem oD_I {C : Int → Int → Prop} {g : Int → Int → PyData} {gv : Int → Int → V} {f : Value → Value → Sem Value} (hg : ∀ K H i j, Dq K H (gv i j) (g i j)) (o : OpR X f (rI C gv)) : OpR X f (rD2 X.K (dI C g)) := by
  intro pins s σ H x y v u Q I rx ry h
  obtain ⟨H0, a, b, d, s0, ha, hb, hf, q⟩ := h
  obtain ⟨i, j, rfl, rfl, hc, rfl⟩ := dI_inv hf
  cases ha; cases hb
  exact o pins s σ H _ _ v u Q I rx ry ⟨_, _, rfl, rfl, hc, q.now s0 (hg _ _ _ _)⟩
theorem oD_I0 {g : Int → Int → PyData} {gv : Int → Int → V} {f : Value → Value → Sem Value} (hg : ∀ K H i j, Dq K H (gv i j) (g i j)) (o : OpR X f (rI0 gv)) : OpR X f (rD2 X.K (dI (fun _ _ => True) g)) := by
  intro pins s σ H x y v u Q I rx ry h
  obtain ⟨H0, a, b, d, s0, ha, hb, hf, q⟩ := h
  obtain ⟨i, j, rfl, rfl, hc, rfl⟩ := dI_inv hf
  cases ha; cases hb
  exact o pins s σ H _ _ v u Q I rx ry ⟨_, _, rfl, rfl, q.now s0 (hg _ _ _ _)⟩
abbrev dSub := dI (fun _ _ => True) fun i j => .int (i - j)
theorem oD_sub : OpR X (binaryOp .Sub) (rD2 X.K dSub) := oD_I0 (fun _ _ _ _ => .int _) op_sub
abbrev dMod := dI (fun _ j => 0 < j) fun i j => .int (i % j)
theorem oD_mod : OpR X (binaryOp .Mod) (rD2 X.K dMod) := oD_I (fun _ _ _ _ => .int _) op_mod
abbrev dDiv := dI CDiv fun i j => .int (i / j)
theorem oD_fdiv : OpR X (binaryOp .FloorDiv) (rD2 X.K dDiv) := oD_I (fun _ _ _ _ => .int _) op_fdiv
abbrev dPow := dI CPow fun i j => .int (i ^ j.toNat)
theorem oD_pow : OpR X (binaryOp .Pow) (rD2 X.K dPow) := oD_I (fun _ _ _ _ => .int _) op_pow
abbrev dLt := dI (fun _ _ => True) fun i j => .bool (decide (i < j))
theorem oD_lt : OpR X (compareOp .Lt) (rD2 X.K dLt) := oD_I0 (fun _ _ _ _ => .bl _) op_lt
abbrev dLe := dI (fun _ _ => True) fun i j => .bool (decide (i ≤ j))
theorem oD_le : OpR X (compareOp .LtE) (rD2 X.K dLe) := oD_I0 (fun _ _ _ _ => .bl _) op_le
abbrev dGt := dI (fun _ _ => True) fun i j => .bool (decide (j < i))
theorem oD_gt : OpR X (compareOp .Gt) (rD2 X.K dGt) := oD_I0 (fun _ _ _ _ => .bl _) op_gt
abbrev dGe := dI (fun _ _ => True) fun i j => .bool (decide (j ≤ i))
theorem oD_ge : OpR X (compareOp .GtE) (rD2 X.K dGe) := oD_I0 (fun _ _ _ _ => .bl _) op_ge
/-- * : two ints, a list or a tuple so often -/
def dMul : RD → RD → RD → Prop
  | .dat (.int i), .dat (.int j), d => CMul i j ∧ d = .dat (.int (i * j))
  | .dat (.list xs), .dat (.int k), d => d = .dat (.list (List.replicate k.toNat xs).flatten) ∧ 0 ≤ k ∧ k ≤ 1000 ∧ xs.length ≤ 1000
  | .dat (.tuple xs), .dat (.int k), d => d = .dat (.tuple (List.replicate k.toNat xs).flatten) ∧ xs ≠ [] ∧ 2 ≤ k ∧ k ≤ 1000 ∧ xs.length ≤ 1000
  | _, _, _ => False
theorem DqAll.rep {K : PySem.W.Frag} {H : Hp} {xs : List V} {ds : List PyData} (h : DqAll K H xs ds) : ∀ n : Nat, DqAll K H (List.replicate n xs).flatten (List.replicate n ds).flatten
  | 0 => .nil
  | n + 1 => by
    rw [List.replicate_succ, List.replicate_succ, List.flatten_cons, List.flatten_cons]
    exact h.append (DqAll.rep h n)
theorem oD_mul : OpR X (binaryOp .Mult) (rD2 X.K dMul) := by
  intro pins s σ H x y v u Q I rx ry h
  obtain ⟨H0, a, b, d, s0, ha, hb, hf, q⟩ := h
  unfold dMul at hf
  split at hf
  · obtain ⟨hc, rfl⟩ := hf
    cases ha; cases hb
    exact op_mul pins s σ H _ _ v u Q I rx ry ⟨_, _, rfl, rfl, hc, q.now s0 (Dq.int _)⟩
  · obtain ⟨rfl, h1, h2, h3⟩ := hf
    cases hb
    cases ha with
    | lst a1 a2 =>
      have hl := a2.length
      refine op_rep pins s σ H _ _ v u Q I rx ry ⟨_, _, _, rfl, rfl, s0 _ _ a1, by omega, by omega, ?_, ?_⟩
      · rw [sizeLine_eq]
        exact Nat.le_trans (Nat.mul_le_mul (show _ ≤ 1000 by omega) (show _ ≤ 1000 by omega)) (by decide)
      · exact q.lst s0 (a2.rep _)
  · obtain ⟨rfl, h0, h1, h2, h3⟩ := hf
    cases hb
    cases ha with
    | tup a1 a2 =>
      have hl := a2.length
      refine op_repT pins s σ H _ _ v u Q I rx ry ⟨_, _, _, rfl, rfl, same_t s0 a1, ?_, h1, h2, by omega, q.tup s0 (a2.rep _)⟩
      rintro rfl
      cases a2
      exact h0 rfl
  · exact hf.elim

/-! ### == != in, not in, is -/
def dEq (neg : Bool) : RD → RD → RD → Prop
  | .dat a, .dat b, d => d = .dat (.bool (if neg then !PyData.eqv a b else PyData.eqv a b)) ∧ SeqAt.shaped a = true ∧ SeqAt.shaped b = true
  | _, _, _ => False
theorem oD_eq (hu : X.A.units + 64 < cLine) : OpR X (compareOp .Eq) (rD2 X.K (dEq false)) := by
  intro pins s σ H x y v u Q I rx ry h
  obtain ⟨H0, a, b, d, s0, ha, hb, hf, q⟩ := h
  unfold dEq at hf
  split at hf
  · obtain ⟨rfl, h1, h2⟩ := hf
    exact op_eqD hu pins s σ H x y v u Q I rx ry ⟨_, _, (Dq.mono s0 _ _ ha).dp, (Dq.mono s0 _ _ hb).dp, h1, h2, q.now s0 (Dq.bl _)⟩
  · exact hf.elim
theorem oD_ne (hu : X.A.units + 64 < cLine) : OpR X (compareOp .NotEq) (rD2 X.K (dEq true)) := by
  intro pins s σ H x y v u Q I rx ry h
  obtain ⟨H0, a, b, d, s0, ha, hb, hf, q⟩ := h
  unfold dEq at hf
  split at hf
  · obtain ⟨rfl, h1, h2⟩ := hf
    exact op_neD hu pins s σ H x y v u Q I rx ry ⟨_, _, (Dq.mono s0 _ _ ha).dp, (Dq.mono s0 _ _ hb).dp, h1, h2, q.now s0 (Dq.bl _)⟩
  · exact hf.elim
def isNon : PyData → Bool
  | .none => true
  | _ => false
theorem dq_non {K : PySem.W.Frag} {H : Hp} {v : V} {d : PyData} (h : Dq K H v d) : decide (v = .non) = isNon d := by
  cases h with
  | non => rfl
  | bl b => exact decide_eq_false (fun z => nomatch z)
  | int i => exact decide_eq_false (fun z => nomatch z)
  | str x => exact decide_eq_false (fun z => nomatch z)
  | lst a b => exact decide_eq_false (fun z => nomatch z)
  | tup a b => exact decide_eq_false (fun z => nomatch z)
/-- is, is not: None, or two truths -/
def dIs (neg : Bool) : RD → RD → RD → Prop
  | .dat a, .dat .none, d => d = .dat (.bool (if neg then !isNon a else isNon a))
  | .dat (.bool a), .dat (.bool b), d => d = .dat (.bool (if neg then !decide (a = b) else decide (a = b)))
  | _, _, _ => False
theorem oD_is : OpR X (compareOp .Is) (rD2 X.K (dIs false)) := by
  intro pins s σ H x y v u Q I rx ry h
  obtain ⟨H0, a, b, d, s0, ha, hb, hf, q⟩ := h
  unfold dIs at hf
  split at hf
  · subst hf
    cases hb
    refine op_isN pins s σ H x _ v u Q I rx ry ⟨rfl, ?_⟩
    rw [dq_non ha]
    exact q.now s0 (Dq.bl _)
  · subst hf
    cases ha; cases hb
    exact op_isBl pins s σ H _ _ v u Q I rx ry ⟨_, _, rfl, rfl, q.now s0 (Dq.bl _)⟩
  · exact hf.elim
theorem oD_isnot : OpR X (compareOp .IsNot) (rD2 X.K (dIs true)) := by
  intro pins s σ H x y v u Q I rx ry h
  obtain ⟨H0, a, b, d, s0, ha, hb, hf, q⟩ := h
  unfold dIs at hf
  split at hf
  · subst hf
    cases hb
    refine op_notN pins s σ H x _ v u Q I rx ry ⟨rfl, ?_⟩
    rw [dq_non ha]
    exact q.now s0 (Dq.bl _)
  · subst hf
    cases ha; cases hb
    exact op_notBl pins s σ H _ _ v u Q I rx ry ⟨_, _, rfl, rfl, q.now s0 (Dq.bl _)⟩
  · exact hf.elim
def flatD : PyData → Bool
  | .none => true
  | .bool _ => true
  | .int _ => true
  | .str _ => true
  | _ => false
theorem dq_flat {K : PySem.W.Frag} {H : Hp} {v : V} {d : PyData} (h : Dq K H v d) : flatV v = flatD d := by cases h <;> rfl
theorem dq_flats {K : PySem.W.Frag} {H : Hp} : ∀ {vs : List V} {ds : List PyData}, DqAll K H vs ds → vs.all flatV = ds.all flatD
  | _, [], h => by cases h; rfl
  | _, d :: ds, h => by
    cases h with
    | cons a b => rw [List.all_cons, List.all_cons, dq_flat a, dq_flats b]
theorem dq_eqV {K : PySem.W.Frag} {H : Hp} {v u : V} {d e : PyData} (h : Dq K H v d) (g : Dq K H u e) (hd : flatD d = true) (he : flatD e = true) : eqV v u = PyData.eqv d e := by
  cases h <;> cases g <;> first | rfl | (simp [eqV, PyData.eqv]; done) | (simp [flatD] at hd) | (simp [flatD] at he)
theorem dq_inV {K : PySem.W.Frag} {H : Hp} {v : V} {d : PyData} (h : Dq K H v d) (hd : flatD d = true) : ∀ {vs : List V} {ds : List PyData}, DqAll K H vs ds → ds.all flatD = true → inV v vs = ds.any fun y => PyData.eqv y d
  | _, [], g, _ => by cases g; rfl
  | _, e :: ds, g, hs => by
    cases g with
    | cons a b =>
      rw [List.all_cons, Bool.and_eq_true] at hs
      show (eqV _ v || inV v _) = _
      rw [dq_inV h hd b hs.2, dq_eqV a h hs.1 hd, List.any_cons]
/-- x in a list of anything, in a tuple of flat things -/
def dIn (neg : Bool) : RD → RD → RD → Prop
  | .dat a, .dat (.list ds), d => d = .dat (.bool (if neg then !(ds.any fun y => PyData.eqv y a) else ds.any fun y => PyData.eqv y a)) ∧ SeqAt.shaped a = true ∧ SeqAt.shaped (.list ds) = true
  | .dat a, .dat (.tuple ds), d => d = .dat (.bool (if neg then !(ds.any fun y => PyData.eqv y a) else ds.any fun y => PyData.eqv y a)) ∧ flatD a = true ∧ ds.all flatD = true
  | _, _, _ => False
theorem oD_in (hu : X.A.units + 65 < cLine) : OpR X (compareOp .In) (rD2 X.K (dIn false)) := by
  intro pins s σ H x y v u Q I rx ry h
  obtain ⟨H0, a, b, d, s0, ha, hb, hf, q⟩ := h
  unfold dIn at hf
  split at hf
  · obtain ⟨rfl, h1, h2⟩ := hf
    exact op_inD hu pins s σ H x y v u Q I rx ry ⟨_, _, (Dq.mono s0 _ _ ha).dp, (Dq.mono s0 _ _ hb).dp, h1, h2, q.now s0 (Dq.bl _)⟩
  · obtain ⟨rfl, h1, h2⟩ := hf
    cases hb with
    | tup b1 b2 =>
      refine op_in_seq pins s σ H x _ v u Q I rx ry ⟨_, _, rfl, .inr (same_t s0 b1), (dq_flat ha).trans h1, (dq_flats b2).trans h2, ?_⟩
      show Q (.bl (inV x _)) H
      rw [dq_inV ha h1 b2 h2]
      exact q.now s0 (Dq.bl _)
  · exact hf.elim
theorem oD_notin (hu : X.A.units + 65 < cLine) : OpR X (compareOp .NotIn) (rD2 X.K (dIn true)) := by
  intro pins s σ H x y v u Q I rx ry h
  obtain ⟨H0, a, b, d, s0, ha, hb, hf, q⟩ := h
  unfold dIn at hf
  split at hf
  · obtain ⟨rfl, h1, h2⟩ := hf
    exact op_notInD hu pins s σ H x y v u Q I rx ry ⟨_, _, (Dq.mono s0 _ _ ha).dp, (Dq.mono s0 _ _ hb).dp, h1, h2, q.now s0 (Dq.bl _)⟩
  · obtain ⟨rfl, h1, h2⟩ := hf
    cases hb with
    | tup b1 b2 =>
      refine op_notIn_seq pins s σ H x _ v u Q I rx ry ⟨_, _, rfl, .inr (same_t s0 b1), (dq_flat ha).trans h1, (dq_flats b2).trans h2, ?_⟩
      show Q (.bl (!inV x _)) H
      rw [dq_inV ha h1 b2 h2]
      exact q.now s0 (Dq.bl _)
  · exact hf.elim

/-! ### places, slices -/
theorem DqAll.atI {K : PySem.W.Frag} {H : Hp} {ds : List PyData} {vs : List V} {i : Int} {d : PyData} (h : DqAll K H vs ds) (e : L2.atI ds i = some d) : ∃ v, L2.atI vs i = some v ∧ Dq K H v d := by
  unfold L2.atI at e ⊢
  rw [h.length]
  cases q : ixN ds.length i with
  | none => rw [q] at e; cases e
  | some j => rw [q] at e; exact h.at e
def dIx : RD → RD → RD → Prop
  | .dat (.list ds), .dat (.int i), d => ∃ x, L2.atI ds i = some x ∧ d = .dat x
  | .dat (.tuple ds), .dat (.int i), d => ∃ x, L2.atI ds i = some x ∧ d = .dat x
  | .dat (.str z), .dat (.int i), d => ∃ c, z.length ≤ big ∧ L2.atI z.cps.toList i = some c ∧ d = .dat (.str ⟨#[c]⟩)
  | .sq ns, .dat (.int i), d => ∃ n, L2.atI ns i = some n ∧ d = .dat (.int n)
  | _, _, _ => False
theorem atI_map {α β : Type} {f : α → β} {xs : List α} {i : Int} {x : α} (h : L2.atI xs i = some x) : L2.atI (xs.map f) i = some (f x) := by
  unfold L2.atI at h ⊢
  rw [List.length_map]
  cases q : ixN xs.length i with
  | none => rw [q] at h; cases h
  | some j =>
    rw [q] at h
    have h' : xs[j]? = some x := h
    show (xs.map f)[j]? = some (f x)
    rw [List.getElem?_map, h']
    rfl
theorem ixD : IxR X (rD2 X.K dIx) := by
  intro value slice pins s σ H x y v u Q I rx ry h hs
  obtain ⟨H0, a, b, d, s0, ha, hb, hf, q⟩ := h
  unfold dIx at hf
  split at hf
  · obtain ⟨e, he, rfl⟩ := hf
    cases hb
    cases ha with
    | lst a1 a2 =>
      obtain ⟨v', hv, dv⟩ := a2.atI he
      exact ix_list value slice pins s σ H _ _ v u Q I rx ry ⟨_, _, _, _, rfl, rfl, SqL.of (s0 _ _ a1), hv, q.now s0 dv⟩ hs
  · obtain ⟨e, he, rfl⟩ := hf
    cases hb
    cases ha with
    | tup a1 a2 =>
      obtain ⟨v', hv, dv⟩ := a2.atI he
      exact ix_tup value slice pins s σ H _ _ v u Q I rx ry ⟨_, _, _, _, rfl, rfl, same_t s0 a1, hv, q.now s0 dv⟩ hs
  · obtain ⟨c, hz, hc, rfl⟩ := hf
    cases ha; cases hb
    exact ix_str value slice pins s σ H _ _ v u Q I rx ry ⟨_, _, _, rfl, rfl, big_le hz, hc, q.now s0 (Dq.str _)⟩ hs
  · obtain ⟨n, hn, rfl⟩ := hf
    cases hb
    obtain ⟨p, rfl, hp⟩ := ha
    exact ix_list value slice pins s σ H _ _ v u Q I rx ry ⟨_, _, _, _, rfl, rfl, s0.seq hp, atI_map hn, q.now s0 (Dq.int _)⟩ hs
  · exact hf.elim
def cutD {α : Type} (xs : List α) (lo hi : Option Int) : List α := (xs.drop (HT.sIx xs.length 0 lo)).take (HT.sIx xs.length xs.length hi - HT.sIx xs.length 0 lo)
theorem DqAll.cut {K : PySem.W.Frag} {H : Hp} {vs : List V} {ds : List PyData} (h : DqAll K H vs ds) (lo hi : Option Int) : DqAll K H (cutV vs lo hi) (cutD ds lo hi) := by
  unfold cutV cutD
  rw [h.length]
  exact (h.drop _).take _
def dSl : RD → Option Int → Option Int → RD → Prop
  | .dat (.list ds), lo, hi, d => d = .dat (.list (cutD ds lo hi))
  | .dat (.tuple ds), lo, hi, d => d = .dat (.tuple (cutD ds lo hi))
  | .dat (.str z), lo, hi, d => d = .dat (.str (Txt.slice z lo hi)) ∧ z.length ≤ big
  | .sq ns, lo, hi, d => d = .dat (.list ((cutD ns lo hi).map PyData.int))
  | _, _, _, _ => False
theorem cut_map {α β : Type} (f : α → β) (xs : List α) (lo hi : Option Int) : cutD (xs.map f) lo hi = (cutD xs lo hi).map f := by
  unfold cutD
  rw [List.length_map, List.map_take, List.map_drop]
theorem cutV_eq (xs : List V) (lo hi : Option Int) : cutV xs lo hi = cutD xs lo hi := rfl
theorem slD : SlR X (rDS X.K dSl) := by
  intro pins s σ H x v vl vu lo hi sl Q I rx hs pl pu h
  obtain ⟨H0, a, d, s0, ha, hf, q⟩ := h
  unfold dSl at hf
  split at hf
  · subst hf
    cases ha with
    | lst a1 a2 => exact sl_list pins s σ H _ v vl vu lo hi sl Q I rx hs pl pu ⟨_, _, rfl, SqL.of (s0 _ _ a1), q.lst s0 (a2.cut lo hi)⟩
  · subst hf
    cases ha with
    | tup a1 a2 =>
      rename_i ds a xs
      refine sl_tupA pins s σ H _ v vl vu lo hi sl Q I rx hs pl pu ⟨_, _, rfl, same_t s0 a1, fun hw => ?_, fun _ => q.tup s0 (a2.cut lo hi)⟩
      have e : cutD ds lo hi = ds := by
        unfold cutD
        rw [← a2.length, hw.1, hw.2, List.drop_zero, Nat.sub_zero, a2.length, List.take_length]
      rw [e] at q
      exact q.now s0 (Dq.tup a1 a2)
  · obtain ⟨rfl, hz⟩ := hf
    cases ha
    exact C8.sl_txt pins s σ H _ v vl vu lo hi sl Q I rx hs pl pu ⟨_, rfl, big_le hz, q.now s0 (Dq.str _)⟩
  · subst hf
    obtain ⟨p, rfl, hp⟩ := ha
    refine sl_list pins s σ H _ v vl vu lo hi sl Q I rx hs pl pu ⟨_, _, rfl, s0.seq hp, ?_⟩
    rw [cutV_eq, cut_map]
    exact q.lst s0 DqAll.ofInts
  · exact hf.elim

/-! ### built-ins -/
theorem rv1 {K : PySem.W.Frag} {H : Hp} {xs : List V} {r : RD} (h : RvAll K H xs [r]) : ∃ x, xs = [x] ∧ Rv K H x r := by
  cases h with
  | cons a b => cases b; exact ⟨_, rfl, a⟩
theorem rv2 {K : PySem.W.Frag} {H : Hp} {xs : List V} {r r' : RD} (h : RvAll K H xs [r, r']) : ∃ x y, xs = [x, y] ∧ Rv K H x r ∧ Rv K H y r' := by
  cases h with
  | cons a b =>
    obtain ⟨y, rfl, c⟩ := rv1 b
    exact ⟨_, y, rfl, a, c⟩
def fLen : List RD → RD → Prop
  | [.dat (.list ds)], d => d = .dat (.int (ds.length : Nat))
  | [.dat (.tuple ds)], d => d = .dat (.int (ds.length : Nat))
  | [.dat (.str z)], d => d = .dat (.int (z.length : Nat)) ∧ z.length ≤ big
  | [.sq ns], d => d = .dat (.int (ns.length : Nat))
  | _, _ => False
theorem cD_len : CallR X (.builtin "len") (rDs X.K fLen) := by
  intro pins s σ H xs us Q I r h
  obtain ⟨H0, rs, d, s0, ha, hf, q⟩ := h
  unfold fLen at hf
  split at hf
  · subst hf
    obtain ⟨x, rfl, dx⟩ := rv1 ha
    cases dx with
    | lst a1 a2 =>
      refine call_len pins s σ H _ us Q I r ⟨_, _, rfl, .inl ⟨_, SqL.of (s0 _ _ a1), rfl⟩, ?_⟩
      rw [a2.length]
      exact q.now s0 (Dq.int _)
  · subst hf
    obtain ⟨x, rfl, dx⟩ := rv1 ha
    cases dx with
    | tup a1 a2 =>
      refine call_len pins s σ H _ us Q I r ⟨_, _, rfl, .inr ⟨_, same_t s0 a1, rfl⟩, ?_⟩
      rw [a2.length]
      exact q.now s0 (Dq.int _)
  · obtain ⟨rfl, hz⟩ := hf
    obtain ⟨x, rfl, dx⟩ := rv1 ha
    cases dx
    exact call_len pins s σ H _ us Q I r ⟨_, _, rfl, ⟨big_le hz, rfl⟩, q.now s0 (Dq.int _)⟩
  · subst hf
    obtain ⟨x, rfl, p, rfl, hp⟩ := rv1 ha
    refine call_len pins s σ H _ us Q I r ⟨_, _, rfl, .inl ⟨_, s0.seq hp, rfl⟩, ?_⟩
    rw [List.length_map]
    exact q.now s0 (Dq.int _)
  · exact hf.elim
def fList : List RD → RD → Prop
  | [.dat (.list ds)], d => d = .dat (.list ds)
  | [.dat (.tuple ds)], d => d = .dat (.list ds)
  | _, _ => False
theorem cD_list : CallR X (.type "list") (rDs X.K fList) := by
  intro pins s σ H xs us Q I r h
  obtain ⟨H0, rs, d, s0, ha, hf, q⟩ := h
  unfold fList at hf
  split at hf
  · subst hf
    obtain ⟨x, rfl, dx⟩ := rv1 ha
    cases dx with
    | lst a1 a2 => exact call_list_of pins s σ H _ us Q I r ⟨_, _, rfl, .inl (SqL.of (s0 _ _ a1)), q.lst s0 a2⟩
  · subst hf
    obtain ⟨x, rfl, dx⟩ := rv1 ha
    cases dx with
    | tup a1 a2 => exact call_list_of pins s σ H _ us Q I r ⟨_, _, rfl, .inr (same_t s0 a1), q.lst s0 a2⟩
  · exact hf.elim
def fTuple : List RD → RD → Prop
  | [.dat (.list ds)], d => d = .dat (.tuple ds)
  | [.dat (.tuple ds)], d => d = .dat (.tuple ds)
  | _, _ => False
theorem cD_tuple : CallR X (.type "tuple") (rDs X.K fTuple) := by
  intro pins s σ H xs us Q I r h
  obtain ⟨H0, rs, d, s0, ha, hf, q⟩ := h
  unfold fTuple at hf
  split at hf
  · subst hf
    obtain ⟨x, rfl, dx⟩ := rv1 ha
    cases dx with
    | lst a1 a2 => exact call_tuple_of pins s σ H _ us Q I r ⟨_, _, rfl, .inl ⟨SqL.of (s0 _ _ a1), q.tup s0 a2⟩⟩
  · subst hf
    obtain ⟨x, rfl, dx⟩ := rv1 ha
    cases dx with
    | tup a1 a2 => exact call_tuple_of pins s σ H _ us Q I r ⟨_, _, rfl, .inr ⟨same_t s0 a1, q.now s0 (Dq.tup a1 a2)⟩⟩
  · exact hf.elim
def fInt : List RD → RD → Prop
  | [.dat (.int i)], d => d = .dat (.int i)
  | [.dat (.bool b)], d => d = .dat (.int (if b then 1 else 0))
  | _, _ => False
theorem cD_int : CallR X (.type "int") (rDs X.K fInt) := by
  intro pins s σ H xs us Q I r h
  obtain ⟨H0, rs, d, s0, ha, hf, q⟩ := h
  unfold fInt at hf
  split at hf
  · subst hf
    obtain ⟨x, rfl, dx⟩ := rv1 ha
    cases dx
    exact call_int1 pins s σ H _ us Q I r (.inl ⟨_, rfl, q.now s0 (Dq.int _)⟩)
  · subst hf
    obtain ⟨x, rfl, dx⟩ := rv1 ha
    cases dx
    exact call_int1 pins s σ H _ us Q I r (.inr ⟨_, rfl, q.now s0 (Dq.int _)⟩)
  · exact hf.elim
/-- max(i, j), min(i, j) of two ints; max(xs), min(xs) of a list of ints -/
def fMax : List RD → RD → Prop
  | [.dat (.int i), .dat (.int j)], d => d = .dat (.int (if j > i then j else i))
  | _, _ => False
theorem cD_max (hc : X.calm = true) : CallR X (.builtin "max") (rDs X.K fMax) := by
  intro pins s σ H xs us Q I r h
  obtain ⟨H0, rs, d, s0, ha, hf, q⟩ := h
  unfold fMax at hf
  split at hf
  · subst hf
    obtain ⟨x, y, rfl, dx, dy⟩ := rv2 ha
    cases dx; cases dy
    exact call_max2 hc pins s σ H _ us Q I r ⟨_, _, rfl, q.now s0 (Dq.int _)⟩
  · exact hf.elim
def fMin : List RD → RD → Prop
  | [.dat (.int i), .dat (.int j)], d => d = .dat (.int (if j < i then j else i))
  | _, _ => False
theorem cD_min (hc : X.calm = true) : CallR X (.builtin "min") (rDs X.K fMin) := by
  intro pins s σ H xs us Q I r h
  obtain ⟨H0, rs, d, s0, ha, hf, q⟩ := h
  unfold fMin at hf
  split at hf
  · subst hf
    obtain ⟨x, y, rfl, dx, dy⟩ := rv2 ha
    cases dx; cases dy
    exact call_min2 hc pins s σ H _ us Q I r ⟨_, _, rfl, q.now s0 (Dq.int _)⟩
  · exact hf.elim
/-- sum of a list of ints -/
def fSum : List RD → RD → Prop
  | [.dat (.list ds)], d => ∃ ns : List Int, ds = ns.map PyData.int ∧ d = .dat (.int ns.sum)
  | _, _ => False
theorem cD_sum (hc : X.calm = true) : CallR X (.builtin "sum") (rDs X.K fSum) := by
  intro pins s σ H xs us Q I r h
  obtain ⟨H0, rs, d, s0, ha, hf, q⟩ := h
  unfold fSum at hf
  split at hf
  · obtain ⟨ns, rfl, rfl⟩ := hf
    obtain ⟨x, rfl, dx⟩ := rv1 ha
    cases dx with
    | lst a1 a2 =>
      have e := a2.ints
      subst e
      exact cr_sum hc pins s σ H _ us Q I r ⟨_, _, rfl, SqL.of (s0 _ _ a1), q.now s0 (Dq.int _)⟩
  · exact hf.elim
/-- all of a list of truths -/
def fAll : List RD → RD → Prop
  | [.dat (.list ds)], d => ∃ bs : List Bool, ds = bs.map PyData.bool ∧ d = .dat (.bool (bs.all id))
  | _, _ => False
theorem cD_all (hc : X.calm = true) : CallR X (.builtin "all") (rDs X.K fAll) := by
  intro pins s σ H xs us Q I r h
  obtain ⟨H0, rs, d, s0, ha, hf, q⟩ := h
  unfold fAll at hf
  split at hf
  · obtain ⟨ns, rfl, rfl⟩ := hf
    obtain ⟨x, rfl, dx⟩ := rv1 ha
    cases dx with
    | lst a1 a2 =>
      have e := a2.bls
      subst e
      exact cr_all hc pins s σ H _ us Q I r ⟨_, _, rfl, SqL.of (s0 _ _ a1), q.now s0 (Dq.bl _)⟩
  · exact hf.elim
/-- isinstance(x, T) -/
def tyD : PyData → String
  | .none => "NoneType"
  | .bool _ => "bool"
  | .int _ => "int"
  | .str _ => "str"
  | .list _ => "list"
  | .tuple _ => "tuple"
  | .dict _ => "dict"
theorem dq_ty {K : PySem.W.Frag} {H : Hp} {v : V} {d : PyData} (h : Dq K H v d) : TyX K H v (.type (tyD d)) := by
  cases h with
  | non => exact .base .non
  | bl b => exact .base (.bl b)
  | int i => exact .base (.int i)
  | str x => exact .base (.str x)
  | lst a b => exact .base (.lst a)
  | tup a b =>
    rcases a with (a | ⟨o, a⟩) | ⟨o, its, n, a, c, _⟩
    · exact .base (.tup a)
    · exact .fTuple a
    · exact .kTuple a c
def fIsi : List RD → RD → Prop
  | [.dat x, .raw (.ty T)], d => ∃ b, kitB (tyD x) T = some b ∧ d = .dat (.bool b)
  | _, _ => False
theorem cD_isi : CallR X (.builtin "isinstance") (rDs X.K fIsi) := by
  intro pins s σ H xs us Q I r h
  obtain ⟨H0, rs, d, s0, ha, hf, q⟩ := h
  unfold fIsi at hf
  split at hf
  · obtain ⟨b, hb, rfl⟩ := hf
    obtain ⟨x, y, rfl, dx, dy⟩ := rv2 ha
    have e : y = .ty _ := dy
    subst e
    exact call_isi pins s σ H _ us Q I r ⟨_, _, _, _, _, rfl, .ty _, dq_ty (Dq.mono s0 _ _ dx), kit_ty hb, q.now s0 (Dq.bl _)⟩
  · exact hf.elim
end
end Wp
end
section
set_option Elab.async false
set_option linter.all false
set_option autoImplicit false
set_option maxRecDepth 100000
set_option maxHeartbeats 2000000
/-! WpE: defs by their names, walks over sequences -/
namespace Wp
open PySem L2

/-- the def called x keeps the promise sp -/
def Df (P : Program) (w : World) (K : PySem.W.Frag) (mg : Str → Option Value) (base : Heap) (x : Str) (k : Nat) (ps : List Str) (sp : Sp) : Prop :=
  ∃ (f : Addr) (fd : FuncData), mg x = some (.ref f) ∧ PySem.W.keepIn K (.ref f) = true ∧ Binds K fd ps [] ∧ FnOk P w K mg base CX0 k f fd ps sp
/-- .. where it stands -/
def DefAt (K : PySem.W.Frag) (mg : Str → Option Value) (x : Str) (st : Stmt) : Prop := ∃ (f : Addr) (fd : FuncData), mg x = some (.ref f) ∧ Fun K x x st f fd
section
variable {X : Cx} {k : Nat} {ps : List Str} {sp : Sp} {e : Expr} {es : List Expr} {t : TA} {p pos : Pos}
theorem pe_df {x : Str} (D : Df X.prog X.w X.K X.mg X.base x k ps sp) (hr : Room k X.A) (hg : Gl X x) (ha : PA X (e :: es) t) (hdb : (x == ("__debug__" : Str)) = false := by decide)
    (he : starEach (e :: es) X.env = (false, eval e X.env) :: starEach es X.env := by rfl) (hpl : (backTo pos (starEach es X.env)).any (·.1) = false := by rfl) :
    PE X (.Call (.Name x p) (e :: es) [] pos) (tCall sp [] E0 t) := by
  obtain ⟨f, fd, hm, hk, hb, F⟩ := D
  exact pe_call F hr hg hm hk hb .nil pass0 ha hdb he hpl
theorem pe_gstr {x s : Str} (hg : Gl X x) (h : ∃ t, X.mg x = some (.str s t)) (hd : (x == ("__debug__" : Str)) = false := by decide) : PE X (.Name x pos) (tC (.str s)) := by
  obtain ⟨t, h⟩ := h
  exact pe_glob hg h ⟨t, rfl⟩ hd
theorem pe_gint {x : Str} {i : Int} (hg : Gl X x) (h : ∃ t, X.mg x = some (.int i t)) (hd : (x == ("__debug__" : Str)) = false := by decide) : PE X (.Name x pos) (tC (.int i)) := by
  obtain ⟨t, h⟩ := h
  exact pe_glob hg h ⟨t, rfl⟩ hd
theorem Df.mono {P : Program} {w : World} {K : PySem.W.Frag} {mg : Str → Option Value} {base : Heap} {x : Str} {j : Nat} (D : Df P w K mg base x j ps sp) (h : j ≤ k) : Df P w K mg base x k ps sp := by
  obtain ⟨f, fd, a, b, c, F⟩ := D
  exact ⟨f, fd, a, b, c, F.mono h⟩
/-! ### a walk over a list or a tuple -/
def iSeq (K : PySem.W.Frag) (tl : TE) : TI := fun σ H R => iList K tl σ H R ∨ iTup K tl σ H R
theorem pi_seq {tg l : Expr} {tl : TE} (hl : PE X l tl) : PI X tg l (iSeq X.K tl) := by
  refine ⟨fun pins s σ H R I h => ?_⟩
  rcases h with h | h
  · exact (pi_list hl).run pins s σ H R I h
  · exact (pi_tup hl).run pins s σ H R I h
variable {K : PySem.W.Frag} {pp : List Addr} {G : Env} {M M1 : List Mu} {tl : TE} {ds : List PyData}
theorem iv_seqL (h : EvG K pp tl G M (.dat (.list ds)) M1) : IvG K pp (iSeq K tl) G M (ds.map .dat) M1 := fun σ H0 H R s e m q => .inl (iv_list h σ H0 H R s e m q)
theorem iv_seqT (h : EvG K pp tl G M (.dat (.tuple ds)) M1) : IvG K pp (iSeq K tl) G M (ds.map .dat) M1 := fun σ H0 H R s e m q => .inr (iv_tup h σ H0 H R s e m q)
/-! ### two at once: zip of two lists, of two tuples -/
theorem zipAt {α β : Type} : ∀ {xs : List α} {ys : List β} {i : Nat} {p : α × β}, (xs.zip ys)[i]? = some p → xs[i]? = some p.1 ∧ ys[i]? = some p.2
  | [], _, _, _, h => by simp at h
  | _ :: _, [], _, _, h => by simp at h
  | x :: xs, y :: ys, 0, p, h => by
    have e : (x, y) = p := Option.some.inj h
    subst e
    exact ⟨rfl, rfl⟩
  | x :: xs, y :: ys, i + 1, p, h => zipAt (i := i) (xs := xs) (ys := ys) h
abbrev zipD (xs ys : List PyData) : List RD := (xs.zip ys).map fun p => .dat (.tuple [p.1, p.2])
theorem zipD_at {xs ys : List PyData} {i : Nat} {r : RD} (h : (zipD xs ys)[i]? = some r) : ∃ x y, xs[i]? = some x ∧ ys[i]? = some y ∧ r = .dat (.tuple [x, y]) := by
  rw [List.getElem?_map] at h
  cases q : (xs.zip ys)[i]? with
  | none => rw [q] at h; cases h
  | some p =>
    rw [q] at h
    obtain ⟨a, b⟩ := zipAt q
    exact ⟨p.1, p.2, a, b, (Option.some.inj h).symm⟩
theorem iv_zipL {ta : TA} {xs ys : List PyData} (h : EaG K pp ta G M [.dat (.list xs), .dat (.list ys)] M1) : IvG K pp (RZ.iZipA K ta) G M (zipD xs ys) M1 := fun σ H0 H R s e m q =>
  h σ H0 H _ s e m fun vs H1 H1' g m1 d => by
    obtain ⟨u, v, rfl, du, dv⟩ := rv2 d
    cases du with
    | lst a1 a2 =>
      cases dv with
      | lst b1 b2 =>
        refine ⟨_, _, _, _, rfl, .inl ⟨SqL.of (g.sub _ _ a1), SqL.of (g.sub _ _ b1), q _ H1 H1' g m1 fun G0 G1 s1 s2 => ⟨fun i r hr => ?_, ?_⟩⟩⟩
        · obtain ⟨x, y, hx, hy, rfl⟩ := zipD_at hr
          obtain ⟨vx, e1, d1⟩ := a2.at hx
          obtain ⟨vy, e2, d2⟩ := b2.at hy
          have hL : SqL K G1 _ _ := SqL.of (s2 _ _ (s1 _ _ a1))
          have hR : SqL K G1 _ _ := SqL.of (s2 _ _ (s1 _ _ b1))
          refine ⟨⟨_, _, vx, vy, hL, hR, e1, e2⟩, fun z H' hz => ?_⟩
          obtain ⟨T, x', y', rfl, hT, rfl, f1, f2⟩ := hz
          have q1 := (f1 _ hL).symm.trans e1
          have q2 := (f2 _ hR).symm.trans e2
          cases q1; cases q2
          refine ⟨upd G0 T (.tup [vx, vy]), Gr.new s2 hT, ?_⟩
          have sn : Same G0 (upd G0 T (.tup [vx, vy])) := (Gr.new (W := Pure) (o := .tup [vx, vy]) s2 hT).lo
          exact Dq.tup (SqT.of upd_same) (.cons (Dq.mono (s1.trans sn) _ _ d1) (.cons (Dq.mono (s1.trans sn) _ _ d2) .nil))
        · refine ⟨_, _, SqL.of (s2 _ _ (s1 _ _ a1)), SqL.of (s2 _ _ (s1 _ _ b1)), ?_⟩
          rw [List.length_map, List.length_zip, a2.length, b2.length]
          omega
theorem iv_zipT {ta : TA} {xs ys : List PyData} (h : EaG K pp ta G M [.dat (.tuple xs), .dat (.tuple ys)] M1) : IvG K pp (RZ.iZipA K ta) G M (zipD xs ys) M1 := fun σ H0 H R s e m q =>
  h σ H0 H _ s e m fun vs H1 H1' g m1 d => by
    obtain ⟨u, v, rfl, du, dv⟩ := rv2 d
    cases du with
    | tup a1 a2 =>
      cases dv with
      | tup b1 b2 =>
        refine ⟨_, _, _, _, rfl, .inr ⟨same_t g.sub a1, same_t g.sub b1, q _ H1 H1' g m1 fun G0 G1 s1 s2 => ⟨fun i r hr => ?_, ?_⟩⟩⟩
        · obtain ⟨x, y, hx, hy, rfl⟩ := zipD_at hr
          obtain ⟨vx, e1, d1⟩ := a2.at hx
          obtain ⟨vy, e2, d2⟩ := b2.at hy
          have hL : SqT K G1 _ _ := same_t s2 (same_t s1 a1)
          have hR : SqT K G1 _ _ := same_t s2 (same_t s1 b1)
          refine ⟨⟨_, _, vx, vy, hL, hR, e1, e2⟩, fun z H' hz => ?_⟩
          obtain ⟨T, x', y', rfl, hT, rfl, f1, f2⟩ := hz
          have q1 := (f1 _ hL).symm.trans e1
          have q2 := (f2 _ hR).symm.trans e2
          cases q1; cases q2
          refine ⟨upd G0 T (.tup [vx, vy]), Gr.new s2 hT, ?_⟩
          have sn : Same G0 (upd G0 T (.tup [vx, vy])) := (Gr.new (W := Pure) (o := .tup [vx, vy]) s2 hT).lo
          exact Dq.tup (SqT.of upd_same) (.cons (Dq.mono (s1.trans sn) _ _ d1) (.cons (Dq.mono (s1.trans sn) _ _ d2) .nil))
        · refine ⟨_, _, same_t s2 (same_t s1 a1), same_t s2 (same_t s1 b1), ?_⟩
          rw [List.length_map, List.length_zip, a2.length, b2.length]
          omega
end
end Wp
end
section
set_option Elab.async false
set_option linter.all false
set_option autoImplicit false
set_option maxRecDepth 100000
set_option maxHeartbeats 4000000
/-! WpEn: enumerate of a tuple -/
namespace Wp
open PySem L2
open AutoSeq1 (wpAny_loadPart')
theorem meets_enumerate_newB1 {v : Value} {o : Obj} {H : Heap → Prop} (B : Begins v o H) :
    Meets (Builtin.«enumerate.__new__» ⟨[.type "enumerate", v], []⟩) (fun _ R s => H s.heap ∧
      R (.ok (.ret (.ref (s.heap.push o).objs.size))) { s with heap := (s.heap.push o).push { cls := .type "enumerate", data := .fields #[.none, .bool false, .ref s.heap.objs.size, rawInt 0, .none, .none] } }) :=
  .of_wp fun prog w A R s h => by
    obtain ⟨hp, g, d, tk, os⟩ := s; obtain ⟨h1, h⟩ := h
    have hsub := sub_enumerate
    have q1 : ∀ {A' : Around} {E : Value → Shared → Prop} {Q : Value → Shared → Prop}, Q (.ref hp.objs.size) ⟨hp.push o, g, d, tk, os⟩ → wpAny (model prog w) A' (pyIter v) Q E ⟨hp, g, d, tk, os⟩ :=
      fun q => B.iter prog w _ _ ⟨hp, g, d, tk, os⟩ _ h1 q
    wp_walk using q1
    refine wpAny_stack_any fun st => wpAny_pure ?_
    split
    · rename_i c _ _ _ _ _
      cases (c == Value.type "enumerate")
      · wp_walk using q1
        exact ⟨_, rfl, h⟩
      · wp_walk using q1
        exact ⟨_, rfl, h⟩
    · wp_walk using q1
      exact ⟨_, rfl, h⟩
section
variable {prog : Program} {w : World} {A : Around} {E : Value → Shared → Prop} {s : Shared}
theorem enum_begins1 {v : Value} {o : Obj} {H : Heap → Prop} {Q : Value → Shared → Prop} (B : Begins v o H) (h1 : H s.heap)
    (h : ∀ h', IsEnum h' (s.heap.objs.size + 1) s.heap.objs.size 0 .none → h'.get? s.heap.objs.size = some o → h'.objs.size = s.heap.objs.size + 2 →
      (∀ b o, s.heap.get? b = some o → h'.get? b = some o) → Q (.ref (s.heap.objs.size + 1)) { s with heap := h' }) :
    wpAny (model prog w) A (call (.type "enumerate") [v]) Q E s := by
  refine callType_new F.called_enumerate (by decide) (F.typeCall_enumerate_1 _) (F.newCall_enumerate_1 _) (fun obj => F.args_object_init_2 obj _) F.entry_enumerate_new
    (meets_enumerate_newB1 B) ⟨h1, ?_⟩
  have hz : (s.heap.push o).objs.size = s.heap.objs.size + 1 := Heap.size_push ..
  show _ ∧ _
  rw [hz]
  have he : IsEnum ((s.heap.push o).push { cls := .type "enumerate", data := .fields #[.none, .bool false, .ref s.heap.objs.size, rawInt 0, .none, .none] }) (s.heap.objs.size + 1) s.heap.objs.size 0 .none := by
    have := Heap.get?_push_size (s.heap.push o) (o := { cls := .type "enumerate", data := .fields #[.none, .bool false, .ref s.heap.objs.size, rawInt 0, .none, .none] }) rfl
    rw [hz] at this; exact this
  refine ⟨⟨_, he, rfl⟩, h _ he (Heap.get?_push_of_some _ (Heap.get?_push_size _ B.free)) (by rw [Heap.size_push, hz]) fun b o x => Heap.get?_push_of_some _ (Heap.get?_push_of_some _ x)⟩
end
/-- the tuple at a, each item in a new pair -/
def IteT (K : PySem.W.Frag) (a : Addr) : It :=
  ⟨fun i H => ∃ (xs : List V) (x : V), SqT K H a xs ∧ xs[i]? = some x, fun i H v H' => ∃ T x, v = .ref T ∧ H T = none ∧ H' = upd H T (.tup [.int (i : Nat), x]) ∧ ∀ xs, SqT K H a xs → xs[i]? = some x, fun i H => ∃ xs : List V, SqT K H a xs ∧ xs.length = i⟩
theorem turn_enumT {P : Program} {w : World} {K : PySem.W.Frag} {elts : List Expr} {kk : Nat} {tpos : Pos} (a e it : Addr) :
    Turn P w K (.Tuple elts kk tpos) (IteT K a) [e, it] e (fun i h => (∃ old, IsEnum h e it ((i : Nat) : Int) old) ∧ h.IsTupleIter it a i ∧ e ≠ it ∧ e ≠ a ∧ a ≠ it) where
  mem := by simp
  obj := fun i h st b hb => by
    obtain ⟨⟨old, he⟩, ⟨o, ho, hc, hd⟩, _⟩ := st
    have e' : b = e ∨ b = it := by simpa using hb
    rcases e' with z | z
    · rw [z]; exact ⟨_, he, fun v q => nomatch q⟩
    · rw [z]; exact ⟨o, ho, fun v q => by rw [hd] at q; cases q⟩
  keep := fun i h h' st k => let ⟨⟨old, he⟩, hi, hne⟩ := st; ⟨⟨old, k e (by simp) _ he⟩, hi.at fun o q => k it (by simp) o q, hne⟩
  item := by
    intro X hP hw hK hc i pins s σ H E I hf st hg
    subst hP hw hK
    obtain ⟨⟨old, he⟩, hit, hne, hea, hai⟩ := st
    obtain ⟨xs, x, hq, hx⟩ := hg
    obtain ⟨its, rv, p, hz⟩ := I.tuple hq
    obtain ⟨u, hu, ru⟩ := rv.get hx
    have hel : e < s.heap.objs.size := Heap.lt_size he
    have hil : it < s.heap.objs.size := by obtain ⟨_, q, _⟩ := hit; exact Heap.lt_size q
    have hlt : i < its.toArray.size := by rw [List.size_toArray]; exact (List.getElem?_eq_some_iff.mp hu).1
    have D := Draws.tuple (prog := X.prog) (w := X.w) (A := X.A.in1) (I.ok.hd hc) it a hai its.toArray
    refine wpAny_pyNext_enum_itemC D he ⟨hit, p⟩ hlt hne (by simp [hne, hea]) fun y h' tk hy ho hst hT hsz hk => ?_
    have ey : y = u := by
      have hu' : its.toArray[i]? = some u := by simpa using hu
      exact Option.some.inj (hy.symm.trans hu')
    subst ey
    refine ⟨_, rfl, wpAny_letOwnedTupleGo_enum (s := { s with heap := h', toks := tk + 1 }) ho fun h'' he' sb => ?_⟩
    have hT2 : h''.get? s.heap.objs.size = some { cls := .type "tuple", data := .seq #[.int i tk, y] } := (sb.2 _ (Nat.ne_of_gt hel)).trans hT
    have new : ObjOk X.prog X.w (upd H s.heap.objs.size (.tup [.int (i : Nat), x])) h'' s.heap.objs.size (.tup [.int (i : Nat), x]) :=
      ⟨by show 2 ≤ sizeLine; decide, [.int i tk, y], .cons ⟨_, rfl⟩ (.cons ru .nil), ⟨_, hT2, rfl, _, rfl⟩⟩
    have I1 : Inv X pins σ (upd H s.heap.objs.size (.tup [.int (i : Nat), x])) { s with heap := h'', toks := tk + 1 } :=
      I.turnedNew (ch := [e, it]) (fun b ob hb q => (sb.2 b (fun z => hb (by simp [z]))).trans (hk b ob (fun z => hb (by simp [z])) (fun z => hb (by simp [z])) q)) hf (Nat.le_refl _) new
    refine ⟨.ref s.heap.objs.size, _, I1, rfl, ⟨_, x, rfl, I.hok.fresh (Nat.le_refl _), rfl, fun ys hy => by rw [I.tuple_inj hy hq]; exact hx⟩, ⟨⟨y, ?_⟩, hst.1.at fun o q => (sb.2 it (Ne.symm hne)).trans q, hne, hea, hai⟩, fun b hb => ?_⟩
    · have e1 : ((i + 1 : Nat) : Int) = (i : Int) + 1 := by omega
      rw [e1]; exact he'
    · have hb' : b < s.heap.objs.size := by
        have e' : b = e ∨ b = it := by simpa using hb
        rcases e' with z | z
        · rw [z]; exact hel
        · rw [z]; exact hil
      rw [upd_ne (Nat.ne_of_lt hb')]
      exact (hf b hb).1
  done := by
    intro X hP hw hK hc i pins s σ H E I hf st hg
    subst hP hw hK
    obtain ⟨⟨old, he⟩, hit, hne, hea, hai⟩ := st
    obtain ⟨xs, hq, hx⟩ := hg
    obtain ⟨its, rv, p, hz⟩ := I.tuple hq
    obtain ⟨f0, f1, f2, f3, f4, f5⟩ := hf it (by simp)
    obtain ⟨e0, e1, e2, e3, e4, e5⟩ := hf e (by simp)
    have hl := rv.length
    have D := Draws.tuple (prog := X.prog) (w := X.w) (A := X.A.in1) (I.ok.hd hc) it a hai its.toArray
    have hi : i = its.toArray.size := by rw [List.size_toArray, ← hl, hx]
    rw [hi] at he hit
    exact wpAny_pyNext_enum_endD D he ⟨hit, p⟩ fun h' eb => ⟨rfl, I.turned (t' := s.toks) (fun b o hb q => eb b o hb q) f0 f1 f3 f4 f5⟩
  self := fun A i s Q E st h => let ⟨⟨_, he⟩, _⟩ := st; wpAny_pyIter_enum he h
def iEnumT (K : PySem.W.Frag) (ta : TA) : TI := fun σ H R => ta σ H fun vs H1 => ∃ a xs, vs = [.ref a] ∧ SqT K H1 a xs ∧ R (IteT K a) H1
theorem pi_enumT {X : Cx} {e : Expr} {ta : TA} {p pos tpos : Pos} {elts : List Expr} {kk : Nat} (hg : Gl X "enumerate") (hm : X.mg "enumerate" = none) (ha : PA X [e] ta) (hs : starEach [e] X.env = [(false, eval e X.env)] := by rfl) :
    PI X (.Tuple elts kk tpos) (.Call (.Name "enumerate" p) [e] [] pos) (iEnumT X.K ta) := by
  refine ⟨fun pins s σ H R I h => ?_⟩
  refine PyProof.Rows.Call_ (ld_blt I hg hm PyProof.Rows.boot_enumerate (PyProof.Rows.callWith_type1 (thn (ha.run pos pins s σ H _ I h) fun us s1 ⟨vs, H1, I1, r1, q1⟩ => ?_) hs rfl))
  obtain ⟨a, xs, ex, hq, q⟩ := q1
  subst ex
  cases r1 with
  | cons r rr =>
    cases rr
    cases r
    obtain ⟨its, rv, p', hz⟩ := I1.tuple hq
    have ha' : a < s1.heap.objs.size := by obtain ⟨o, e, _⟩ := p'; exact Heap.lt_size e
    refine enum_begins1 (begins_tuple a its.toArray) p' fun h' he hit hsz hk => wpAny_pyIter_enum he ?_
    have I2 : Inv X pins σ H1 { s1 with heap := h' } := I1.kept (t' := s1.toks) hk
    refine ⟨s1.heap.objs.size + 1, [s1.heap.objs.size + 1, s1.heap.objs.size], _, _, H1, rfl, I2, turn_enumT a (s1.heap.objs.size + 1) s1.heap.objs.size, ⟨⟨.none, he⟩, ⟨_, hit, rfl, rfl⟩, Nat.succ_ne_self _, Nat.ne_of_gt (Nat.lt_succ_of_lt ha'), Nat.ne_of_lt ha'⟩, fun b hb => ?_, q⟩
    have e' : b = s1.heap.objs.size + 1 ∨ b = s1.heap.objs.size := by simpa using hb
    have hle : s1.heap.objs.size ≤ b := by
      rcases e' with z | z
      · rw [z]; exact Nat.le_add_right _ _
      · rw [z]; exact Nat.le_refl _
    exact I1.fpOk hle (I1.hok.fresh hle)
/-! ### enumerate of a list or a tuple, by data -/
def iEnumD (K : PySem.W.Frag) (ta : TA) : TI := fun σ H R => iEnum K ta σ H R ∨ iEnumT K ta σ H R
theorem pi_enumD {X : Cx} {e : Expr} {ta : TA} {p pos tpos : Pos} {elts : List Expr} {kk : Nat} (hg : Gl X "enumerate") (hm : X.mg "enumerate" = none) (ha : PA X [e] ta) (hs : starEach [e] X.env = [(false, eval e X.env)] := by rfl) :
    PI X (.Tuple elts kk tpos) (.Call (.Name "enumerate" p) [e] [] pos) (iEnumD X.K ta) := by
  refine ⟨fun pins s σ H R I h => ?_⟩
  rcases h with h | h
  · exact (pi_enum hg hm ha hs).run pins s σ H R I h
  · exact (pi_enumT hg hm ha hs).run pins s σ H R I h
section
variable {K : PySem.W.Frag} {pp : List Addr} {G : Env} {M M1 : List Mu} {ta : TA} {ds : List PyData}
abbrev enumD (ds : List PyData) : List RD := ds.mapIdx fun i d => .dat (.tuple [.int (i : Int), d])
theorem enumD_at {ds : List PyData} {i : Nat} {r : RD} (h : (enumD ds)[i]? = some r) : ∃ d, ds[i]? = some d ∧ r = .dat (.tuple [.int (i : Int), d]) := by
  rw [List.getElem?_mapIdx] at h
  cases q : ds[i]? with
  | none => rw [q] at h; cases h
  | some d => rw [q] at h; exact ⟨d, rfl, (Option.some.inj h).symm⟩
theorem iv_enumL (h : EaG K pp ta G M [.dat (.list ds)] M1) : IvG K pp (iEnumD K ta) G M (enumD ds) M1 := fun σ H0 H R s e m q =>
  .inl (h σ H0 H _ s e m fun vs H1 H1' g m1 d => by
    obtain ⟨u, rfl, du⟩ := rv1 d
    cases du with
    | lst a1 a2 =>
      refine ⟨_, _, rfl, SqL.of (g.sub _ _ a1), q _ H1 H1' g m1 fun G0 G1 s1 s2 => ⟨fun i r hr => ?_, ?_⟩⟩
      · obtain ⟨d, hd, rfl⟩ := enumD_at hr
        obtain ⟨v, e1, d1⟩ := a2.at hd
        have hL : SqL K G1 _ _ := SqL.of (s2 _ _ (s1 _ _ a1))
        refine ⟨⟨_, v, hL, e1⟩, fun z H' hz => ?_⟩
        obtain ⟨T, x, rfl, hT, rfl, f1⟩ := hz
        have q1 := (f1 _ hL).symm.trans e1
        cases q1
        have sn : Same G0 (upd G0 T (.tup [.int (i : Nat), v])) := (Gr.new (W := Pure) (o := .tup [.int (i : Nat), v]) s2 hT).lo
        exact ⟨upd G0 T (.tup [.int (i : Nat), v]), Gr.new s2 hT, Dq.tup (SqT.of upd_same) (.cons (.int _) (.cons (Dq.mono (s1.trans sn) _ _ d1) .nil))⟩
      · exact ⟨_, SqL.of (s2 _ _ (s1 _ _ a1)), by rw [List.length_mapIdx, a2.length]; exact Nat.le_refl _⟩)
theorem iv_enumT (h : EaG K pp ta G M [.dat (.tuple ds)] M1) : IvG K pp (iEnumD K ta) G M (enumD ds) M1 := fun σ H0 H R s e m q =>
  .inr (h σ H0 H _ s e m fun vs H1 H1' g m1 d => by
    obtain ⟨u, rfl, du⟩ := rv1 d
    cases du with
    | tup a1 a2 =>
      refine ⟨_, _, rfl, same_t g.sub a1, q _ H1 H1' g m1 fun G0 G1 s1 s2 => ⟨fun i r hr => ?_, ?_⟩⟩
      · obtain ⟨d, hd, rfl⟩ := enumD_at hr
        obtain ⟨v, e1, d1⟩ := a2.at hd
        have hL : SqT K G1 _ _ := same_t s2 (same_t s1 a1)
        refine ⟨⟨_, v, hL, e1⟩, fun z H' hz => ?_⟩
        obtain ⟨T, x, rfl, hT, rfl, f1⟩ := hz
        have q1 := (f1 _ hL).symm.trans e1
        cases q1
        have sn : Same G0 (upd G0 T (.tup [.int (i : Nat), v])) := (Gr.new (W := Pure) (o := .tup [.int (i : Nat), v]) s2 hT).lo
        exact ⟨upd G0 T (.tup [.int (i : Nat), v]), Gr.new s2 hT, Dq.tup (SqT.of upd_same) (.cons (.int _) (.cons (Dq.mono (s1.trans sn) _ _ d1) .nil))⟩
      · exact ⟨_, same_t s2 (same_t s1 a1), by rw [List.length_mapIdx, a2.length]⟩)
end
end Wp
end
section
set_option Elab.async false
set_option linter.all false
set_option autoImplicit false
set_option maxRecDepth 100000
set_option maxHeartbeats 6400000
/-! WpS: set(xs) of a list of ints, of texts; how many; in order -/
namespace Wp
open PySem L2
/-- an empty set as it is laid -/
def set0 (w : World) : Obj := { cls := .type "set", dict := none, data := .set #[] 0 (.fresh 0 0 (!w.params.followText "set-order")) }
section
variable {P : Program} {w : World} {A : Around} {E : Value → Shared → Prop} {s : Shared}
/-- set(xs), by what its loop brings about: Pq is said of the heap behind it -/
theorem call_set_by {l : Addr} {items : Array Value} {Pq : Heap → Prop} {Q : Value → Shared → Prop} (hl : s.heap.IsList l items)
    (loop : ∀ (A1 : Around) (h1 : Heap) (R : Result → Shared → Prop), A1.handled = A.handled → h1.objs.size = s.heap.objs.size + 2 → h1.get? s.heap.objs.size = some (set0 w) → h1.IsListIter (s.heap.objs.size + 1) l 0 → h1.IsList l items → (∀ b o, s.heap.get? b = some o → h1.get? b = some o) →
      (∀ (h' : Heap) (tk : Nat), Pq h' → (∀ b o, b ≠ s.heap.objs.size → b ≠ s.heap.objs.size + 1 → h1.get? b = some o → h'.get? b = some o) → R (.ok (.ret .none)) { s with heap := h', toks := tk }) →
      codeAny (model P w) A1 (.builtin "set.update.loop" ⟨[.ref s.heap.objs.size, .ref (s.heap.objs.size + 1)], []⟩) R { s with heap := h1 })
    (fin : ∀ (h' : Heap) (tk : Nat), Pq h' → (∀ b o, s.heap.get? b = some o → h'.get? b = some o) → Q (.ref s.heap.objs.size) { s with heap := h', toks := tk }) :
    wpAny (model P w) A (call (.type "set") [.ref l]) Q E s := by
  obtain ⟨c, tl, hmro⟩ := F.called_set.mro
  have made := F.called_set.made
  have sub := F.called_set.sub
  refine wpAny_call (codeAny_of_tree ?_)
  show wpAny _ _ (callAny (.type "set") _) _ _ _
  refine wpAny_pure ⟨Code.quiet_builtin _ (by decide +kernel), codeAny_builtin F.entry_type_call ?_⟩
  rw [Around.under_plain (weight_type_call_type "set" [.ref l] []) rfl]
  have q1 := F.called_set.notType
  have q2 := F.called_set.canCreate
  have q3 := F.typeCall_set_1 (.ref l)
  repeat (any_goals (first | assumption | wp_step))
  refine codeAny_mono (code_set_led1 (.ref l) (E := E) (Q₁ := fun obj s1 => obj = .ref s.heap.objs.size ∧ s1 = { s with heap := s.heap.push (set0 w) }) ⟨rfl, rfl⟩) fun r s1 hr => ?_
  match r, hr with
  | .error e, hr => exact hr
  | .ok (.ret obj), hr =>
    obtain ⟨rfl, rfl⟩ := hr
    have gS : (s.heap.push (set0 w)).get? s.heap.objs.size = some (set0 w) := Heap.get?_push_size _ rfl
    have tS : Shared.TypeIs { s with heap := s.heap.push (set0 w) } (.ref s.heap.objs.size) "set" := ⟨_, gS, rfl⟩
    have q4 := F.called_set.init.lookup
    have q5 := F.called_set.init.bind (.ref s.heap.objs.size)
    repeat (any_goals (first | assumption | wp_step))
    refine codeAny_mono (codeAny_call_builtin (R := wants (fun r s2 => r = .none ∧ ∃ h' tk, s2 = { s with heap := h', toks := tk } ∧ Pq h' ∧ (∀ b o, s.heap.get? b = some o → h'.get? b = some o)) E) F.called_set.init.plain F.entry_set_init (check_set_init_1 tS ?_)) fun r2 s2 hr2 => ?_
    · obtain ⟨ol, hol, hcl, nl, hdl⟩ := id hl
      obtain ⟨ocls, odict, odata, oslots⟩ := ol
      simp only at hcl hdl
      subst hcl hdl
      have gl : (s.heap.push (set0 w)).get? l = some { cls := .type "list", dict := odict, data := .seq items nl, slots := oslots } := Heap.get?_push_of_some _ hol
      have q6 := F.sub_list_set
      have q7 := F.sub_list_frozenset
      have q8 : (Value.type "list" == Value.type "dict") = false := by decide
      have pl : (s.heap.push (set0 w)).IsList l items := ⟨_, gl, rfl, nl, rfl⟩
      unfold Builtin.«set.__init__» noKeywords Builtin.Frozenset.updateFrom
      generalize hPI : pyIter = PI
      wp_walk
      subst hPI
      refine wpAny_pyIter_list pl (wpAny_bind (wpAny_runValue ?_))
      have sz : (s.heap.push (set0 w)).objs.size = s.heap.objs.size + 1 := Heap.size_push ..
      have e2 : (((s.heap.push (set0 w)).push { cls := .type "list_iterator", data := .fields #[.ref l, .int 0 0] })).objs.size = s.heap.objs.size + 2 := by rw [Heap.size_push, sz]
      have it : ((s.heap.push (set0 w)).push { cls := .type "list_iterator", data := .fields #[.ref l, .int 0 0] }).IsListIter (s.heap.objs.size + 1) l 0 := by
        have g := Heap.get?_push_size (s.heap.push (set0 w)) (o := { cls := .type "list_iterator", data := .fields #[.ref l, .int 0 0] }) rfl
        rw [sz] at g
        exact ⟨_, g, rfl, rfl⟩
      show codeAny _ _ (.builtin "set.update.loop" ⟨[.ref s.heap.objs.size, .ref (s.heap.push (set0 w)).objs.size], []⟩) _ _
      rw [sz]
      refine loop _ ((s.heap.push (set0 w)).push { cls := .type "list_iterator", data := .fields #[.ref l, .int 0 0] }) _ (by simp) e2 (Heap.get?_push_of_some _ gS) it (pl.push _) (fun b o e => Heap.get?_push_of_some _ (Heap.get?_push_of_some _ e)) fun h' tk hp hk => ?_
      show wpAny _ _ _ _ _ _
      refine wpAny_pure ?_
      show wpAny _ _ (ret Value.none) _ _ _
      refine wpAny_pure ⟨rfl, h', tk, rfl, hp, fun b o e => ?_⟩
      have lt : b < s.heap.objs.size := Heap.lt_size e
      exact hk b o (Nat.ne_of_lt lt) (Nat.ne_of_lt (Nat.lt_succ_of_lt lt)) (Heap.get?_push_of_some _ (Heap.get?_push_of_some _ e))
    · match r2, hr2 with
      | .error e, hr2 => exact hr2
      | .ok (.ret r), hr2 =>
        obtain ⟨rfl, h', tk, rfl, hp, hk⟩ := hr2
        repeat (any_goals (first | assumption | wp_step))
        exact fin _ _ hp hk
      | .ok .next, hr2 => exact hr2.elim
      | .ok .brk, hr2 => exact hr2.elim
      | .ok .cont, hr2 => exact hr2.elim
  | .ok .next, hr => exact hr.elim
  | .ok .brk, hr => exact hr.elim
  | .ok .cont, hr => exact hr.elim
end
end Wp
end
section
set_option Elab.async false
set_option linter.all false
set_option autoImplicit false
set_option maxRecDepth 100000
set_option maxHeartbeats 4000000
/-! WpT: sets as data: set(xs), len, sorted -/
namespace Wp
open PySem L2
/-! ### each but once -/
section
variable {α : Type} [DecidableEq α]
def nub : List α → List α
  | [] => []
  | a :: l => if a ∈ l then nub l else a :: nub l
theorem mem_nub {x : α} : ∀ {l : List α}, x ∈ nub l ↔ x ∈ l
  | [] => Iff.rfl
  | a :: l => by
    unfold nub
    by_cases h : a ∈ l
    · rw [if_pos h, mem_nub, List.mem_cons]
      exact ⟨.inr, fun z => z.elim (fun e => e ▸ h) id⟩
    · rw [if_neg h, List.mem_cons, List.mem_cons, mem_nub]
theorem nodup_nub : ∀ l : List α, (nub l).Nodup
  | [] => .nil
  | a :: l => by
    unfold nub
    by_cases h : a ∈ l
    · rw [if_pos h]; exact nodup_nub l
    · rw [if_neg h]; exact List.nodup_cons.mpr ⟨fun z => h (mem_nub.mp z), nodup_nub l⟩
theorem nodup_le : ∀ {l m : List α}, l.Nodup → (∀ x ∈ l, x ∈ m) → l.length ≤ m.length
  | [], _, _, _ => Nat.zero_le _
  | a :: l, m, hn, hs => by
    have ha := hs a List.mem_cons_self
    obtain ⟨h1, h2⟩ := List.nodup_cons.mp hn
    have ih := nodup_le (m := m.erase a) h2 fun x hx => (List.mem_erase_of_ne (fun (e : x = a) => h1 (e ▸ hx))).mpr (hs x (List.mem_cons_of_mem _ hx))
    rw [List.length_erase_of_mem ha] at ih
    have : 0 < m.length := List.length_pos_of_mem ha
    show l.length + 1 ≤ m.length
    omega
theorem nodup_same {l m : List α} (hl : l.Nodup) (hm : m.Nodup) (h : ∀ x, x ∈ l ↔ x ∈ m) : l.length = m.length :=
  Nat.le_antisymm (nodup_le hl fun x hx => (h x).mp hx) (nodup_le hm fun x hx => (h x).mpr hx)
theorem nub_le (l : List α) : (nub l).length ≤ l.length := nodup_le (nodup_nub l) fun _ h => mem_nub.mp h
theorem nub_add (l : List α) (a : α) : (nub (l ++ [a])).length = if a ∈ l then (nub l).length else (nub l).length + 1 := by
  by_cases h : a ∈ l
  · rw [if_pos h]
    exact nodup_same (nodup_nub _) (nodup_nub _) fun x => by
      rw [mem_nub, mem_nub, List.mem_append, List.mem_singleton]
      exact ⟨fun z => z.elim id fun e => e ▸ h, .inl⟩
  · rw [if_neg h]
    have h2 : (a :: nub l).Nodup := List.nodup_cons.mpr ⟨fun z => h (mem_nub.mp z), nodup_nub l⟩
    exact nodup_same (nodup_nub _) h2 fun x => by
      rw [mem_nub, List.mem_append, List.mem_singleton, List.mem_cons, mem_nub]
      exact Or.comm
end

/-- whether a key is in a list -/
def hasK (l : List Key) (j : Key) : Bool := l.any fun x => decide (x = j)
theorem hasK_iff {l : List Key} {j : Key} : hasK l j = true ↔ j ∈ l := by
  unfold hasK
  rw [List.any_eq_true]
  exact ⟨fun ⟨x, a, b⟩ => of_decide_eq_true b ▸ a, fun h => ⟨j, h, decide_eq_true rfl⟩⟩
theorem hasK_no {l : List Key} {j : Key} : hasK l j = false ↔ j ∉ l := by
  rw [← hasK_iff, Bool.not_eq_true]
section
variable {P : Program} {w : World} {A : Around} {E : Value → Shared → Prop} {s : Shared}
theorem call_set_ints {l : Addr} {items : Array Value} (ns : List Int) {Q : Value → Shared → Prop} (hh : A.handled = none) (hl : s.heap.IsList l items) (hi : PyProof.Rows.IntsAre items.toList ns) (hb : ns.length + 1 < scanBound)
    (fin : ∀ (h' : Heap) (tk : Nat), SetR w h' s.heap.objs.size (fun j => decide (j ∈ ns)) (nub ns).length → (∀ b o, s.heap.get? b = some o → h'.get? b = some o) → Q (.ref s.heap.objs.size) { s with heap := h', toks := tk }) :
    wpAny (model P w) A (call (.type "set") [.ref l]) Q E s := by
  have sz : items.size = ns.length := by
    have q := PyProof.Rows.IntsAre.length hi
    rw [Array.length_toList] at q
    exact q
  refine call_set_by (Pq := fun h' => SetR w h' s.heap.objs.size (fun j => decide (j ∈ ns)) (nub ns).length) hl (fun A1 h1 R ha hz hS hI hL hk k => ?_) fin
  have lt : l < s.heap.objs.size := by obtain ⟨o, e, _⟩ := hl; exact Heap.lt_size e
  have n1 : l ≠ s.heap.objs.size + 1 := Nat.ne_of_lt (Nat.lt_succ_of_lt lt)
  have nf : s.heap.objs.size ∉ [s.heap.objs.size + 1, l] := by
    simp only [List.mem_cons, List.not_mem_nil, or_false, not_or]
    exact ⟨Nat.ne_of_lt (Nat.lt_succ_self _), Nat.ne_of_gt lt⟩
  have val : ∀ (i : Nat) (v : Value), items[i]? = some v → ∃ k t, ns[i]? = some k ∧ v = .int k t := fun i v hv => by
    have hlt : i < ns.length := by rw [← sz]; exact (Array.getElem?_eq_some_iff.mp hv).1
    obtain ⟨t, e⟩ := PyProof.Rows.IntsAre.int_at hi i v (by rw [Array.getElem?_toList]; exact hv)
    refine ⟨ns[i], t, List.getElem?_eq_getElem hlt, ?_⟩
    rw [e, List.getD_eq_getElem?_getD, List.getElem?_eq_getElem hlt] <;> rfl
  refine set_update_ints (P := P) (A := A1) ((Walks.list (A := A1.in1) (by simp [ha, hh]) (s.heap.objs.size + 1) l n1 items).toS) s.heap.objs.size nf ns sz hb val (items.size - 0) 0 { s with heap := h1 } (by omega) (Nat.zero_le _) ⟨hI, hL⟩ ⟨0, Nat.le_refl 0, setR_new_at hS⟩ fun s' c m hc R' => ?_
  obtain ⟨h', g2, d', tk', os'⟩ := s'
  have eg : g2 = s.gens := m.gens
  have ed : d' = s.drawn := m.drawn
  have eo : os' = s.os := m.os
  subst eg ed eo
  have ec : c = (nub ns).length := by
    obtain ⟨o, es, ep, t, _, _, _, _, nd, mem, _, _, en, _⟩ := R'
    have e1 : c = (es.toList.map keyOf).length := by rw [List.length_map, ← en]; simp
    rw [e1]
    exact nodup_same nd (nodup_nub ns) fun x => by
      rw [← mem, mem_nub, decide_eq_true_eq]
  rw [ec] at R'
  exact k h' tk' R' fun b o h1 h2 e => m.heap b o (by simp only [List.mem_cons, List.not_mem_nil, or_false, not_or]; exact ⟨h1, h2⟩) e
theorem set_update_keys {I : Addr} {fp wr : List Addr} {Gg : Array GenState → Array GenState → Prop} {n : Nat} {Pv : Nat → Value → Prop} {St : Nat → Shared → Prop} {R : Result → Shared → Prop}
    (W : WalksS P w A.in1 I fp wr Gg n Pv St) (S : Addr) (hSf : S ∉ fp) (ks : List Key) (hn : n = ks.length) (hb : ks.length + 1 < scanBound) (val : ∀ i v, Pv i v → ∃ k, ks[i]? = some k ∧ RelV (kV k) v) :
    ∀ (m i : Nat) (s : Shared), n - i = m → i ≤ n → St i s → s.heap.SetOf (mixKind P w) S (hasK (ks.take i)) (nub (ks.take i)).length →
      (∀ s', Moved (S :: wr) Gg s s' → s'.heap.SetOf (mixKind P w) S (hasK ks) (nub ks).length → R (.ok (.ret .none)) s') →
      codeAny (model P w) A (.builtin "set.update.loop" ⟨[.ref S, .ref I], []⟩) R s := by
  have sw : S ∉ wr := fun h => hSf (W.sub _ h)
  have up : ∀ b ∈ wr, b ∈ S :: wr := fun b hb => List.mem_cons_of_mem _ hb
  intro m
  induction m with
  | zero =>
    intro i s h1 h2 st hS k
    have ei : i = n := by omega
    subst ei
    refine codeAny_builtin PyProof.Rows.F.entry_set_update_loop ?_
    rw [Around.under_plainId PyProof.Rows.F.plain_set_update_loop _]
    show wpAny _ A.in1 (pyNext (.ref I) >>= _) _ _ s
    refine wpAny_bind (W.done s _ _ st fun s' mv => ?_)
    have e : ks.take i = ks := List.take_of_length_le (by omega)
    rw [e] at hS
    exact wpAny_pure (k s' (mv.mono up) (setOf_at hS fun o e => mv.heap S o sw e))
  | succ m ih =>
    intro i s h1 h2 st hS k
    have lt : i < n := by omega
    refine codeAny_builtin PyProof.Rows.F.entry_set_update_loop ?_
    rw [Around.under_plainId PyProof.Rows.F.plain_set_update_loop _]
    show wpAny _ A.in1 (pyNext (.ref I) >>= _) _ _ s
    refine wpAny_bind (W.item i s _ _ lt st fun v s' pv st' mv => ?_)
    obtain ⟨z, hz, rz⟩ := val i v pv
    have hS' : s'.heap.SetOf (mixKind P w) S (hasK (ks.take i)) (nub (ks.take i)).length := setOf_at hS fun o e => mv.heap S o sw e
    have room : (nub (ks.take i)).length + 1 < scanBound := by
      have h3 := nub_le (ks.take i)
      have h4 : (ks.take i).length ≤ ks.length := List.length_take_le' _ _
      omega
    show wpAny _ A.in1 (holding [v] (setAdd S v) >>= _) _ _ s'
    refine wpAny_bind (wpAny_holding ?_)
    unfold setAdd
    refine wpAny_holding (wpAny_bind ((mixKind P w).pyHash (k := z) (kV_is rz) ?_))
    refine wpAny_setAddHashed_of (s := { s' with toks := s'.toks + 1 }) (kV_is rz) (key_scan rz) hS' room fun h' sb hS2 => ?_
    have hS3 : h'.SetOf (mixKind P w) S (hasK (ks.take (i + 1))) (nub (ks.take (i + 1))).length := by
      have e1 : ks.take (i + 1) = ks.take i ++ [z] := by rw [List.take_add_one, hz]; rfl
      rw [e1, nub_add]
      have e2 : hasK (ks.take i ++ [z]) = fun (j : Key) => hasK (ks.take i) j || decide (j = z) := by
        funext j
        unfold hasK
        rw [List.any_append, List.any_cons, List.any_nil, Bool.or_false]
        congr 1
        exact decide_eq_decide.mpr eq_comm
      rw [e2]
      by_cases hm : z ∈ ks.take i
      · rw [if_pos hm]
        rw [hasK_iff.mpr hm] at hS2
        exact hS2
      · rw [if_neg hm]
        rw [hasK_no.mpr hm] at hS2
        exact hS2
    refine wpAny_pure ⟨plainId_quiet PyProof.Rows.F.plain_set_update_loop _, ih (i + 1) _ (by omega) lt (W.frame _ s' _ _ st' (Nat.le_succ _) fun b hb o e => ?_) hS3 fun s2 mv2 hS4 => ?_⟩
    · rw [sb.2 b (fun h : b = S => hSf (by rw [← h]; exact hb))]; exact e
    · refine k s2 (Moved.trans W.gtrans ((mv.mono up).then_heap (Nat.le_succ _) fun b o hb e => ?_) mv2) hS4
      rw [sb.2 b (fun h : b = S => hb (by rw [h]; exact List.mem_cons_self))]; exact e
theorem call_set_keys {l : Addr} {items : Array Value} (ks : List Key) {Q : Value → Shared → Prop} (hh : A.handled = none) (hl : s.heap.IsList l items) (hi : Vals (ks.map kV) items.toList) (hb : ks.length + 1 < scanBound)
    (fin : ∀ (h' : Heap) (tk : Nat), h'.SetOf (mixKind P w) s.heap.objs.size (hasK ks) (nub ks).length → (∀ b o, s.heap.get? b = some o → h'.get? b = some o) → Q (.ref s.heap.objs.size) { s with heap := h', toks := tk }) :
    wpAny (model P w) A (call (.type "set") [.ref l]) Q E s := by
  have sz : items.size = ks.length := by
    have q := hi.length
    rw [List.length_map, Array.length_toList] at q
    exact q.symm
  refine call_set_by (Pq := fun h' => h'.SetOf (mixKind P w) s.heap.objs.size (hasK ks) (nub ks).length) hl (fun A1 h1 R ha hz hS hI hL hk k => ?_) fin
  have lt : l < s.heap.objs.size := by obtain ⟨o, e, _⟩ := hl; exact Heap.lt_size e
  have n1 : l ≠ s.heap.objs.size + 1 := Nat.ne_of_lt (Nat.lt_succ_of_lt lt)
  have nf : s.heap.objs.size ∉ [s.heap.objs.size + 1, l] := by
    simp only [List.mem_cons, List.not_mem_nil, or_false, not_or]
    exact ⟨Nat.ne_of_lt (Nat.lt_succ_self _), Nat.ne_of_gt lt⟩
  have val : ∀ (i : Nat) (v : Value), items[i]? = some v → ∃ k, ks[i]? = some k ∧ RelV (kV k) v := fun i v hv => by
    have hlt : i < ks.length := by rw [← sz]; exact (Array.getElem?_eq_some_iff.mp hv).1
    have hk : (ks.map kV)[i]? = some (kV ks[i]) := by rw [List.getElem?_map, List.getElem?_eq_getElem hlt]; rfl
    obtain ⟨u, e1, e2⟩ := hi.get hk
    have e3 : items.toList[i]? = some v := by rw [Array.getElem?_toList]; exact hv
    have e4 := Option.some.inj (e1.symm.trans e3)
    subst e4
    exact ⟨_, List.getElem?_eq_getElem hlt, e2⟩
  have new : h1.SetOf (mixKind P w) s.heap.objs.size (hasK (ks.take 0)) (nub (ks.take 0)).length :=
    ⟨_, #[], 0, _, hS, ⟨rfl, rfl, rfl⟩, rfl, (fun e he => by simp at he), (fun k => by rw [List.take_zero]; simp [hasK]), (by decide), (by rfl), rfl⟩
  refine set_update_keys (P := P) (A := A1) ((Walks.list (A := A1.in1) (by simp [ha, hh]) (s.heap.objs.size + 1) l n1 items).toS) s.heap.objs.size nf ks sz hb val (items.size - 0) 0 { s with heap := h1 } (by omega) (Nat.zero_le _) ⟨hI, hL⟩ new fun s' m R' => ?_
  obtain ⟨h', g2, d', tk', os'⟩ := s'
  have eg : g2 = s.gens := m.gens
  have ed : d' = s.drawn := m.drawn
  have eo : os' = s.os := m.os
  subst eg ed eo
  exact k h' tk' R' fun b o h1 h2 e => m.heap b o (by simp only [List.mem_cons, List.not_mem_nil, or_false, not_or]; exact ⟨h1, h2⟩) e
end
section
variable {X : Cx}
/-- set(xs) of ints, of texts -/
def fSet (P : Program) (w : World) : List RD → RD → Prop
  | [.dat (.list ds)], d => (∃ ns : List Int, ds = ns.map PyData.int ∧ ns.length ≤ 4000 ∧ d = .ob fun p => SetO w p (fun j => decide (j ∈ ns)) (nub ns).length) ∨
      (∃ xs : List Str, ds = xs.map PyData.str ∧ xs.length ≤ 4000 ∧ d = .ob fun p => SetK P w p (hasK (xs.map Sum.inr)) (nub (xs.map Sum.inr : List Key)).length)
  | _, _ => False
theorem DqAll.strs {K : PySem.W.Frag} {H : Hp} : ∀ {xs : List Str} {vs : List V}, DqAll K H vs (xs.map PyData.str) → vs = xs.map V.str
  | [], _, h => by cases h; rfl
  | n :: ns, _, h => by
    cases h with
    | cons h1 h2 => cases h1; rw [DqAll.strs h2]; rfl
theorem cD_set (hc : X.calm = true) : CallR X (.type "set") (rDs X.K (fSet X.prog X.w)) := by
  intro pins s σ H xs us Q I r h
  obtain ⟨H0, rs, d, s0, ha, hf, q⟩ := h
  unfold fSet at hf
  split at hf
  · obtain ⟨x, rfl, dx⟩ := rv1 ha
    obtain ⟨u, rfl, rx⟩ := vals1 r
    cases dx with
    | lst a1 a2 =>
      cases rx
      obtain ⟨its, rv, pl, _⟩ := I.list (SqL.of (s0 _ _ a1))
      rcases hf with ⟨ns, rfl, hz, rfl⟩ | ⟨zs, rfl, hz, rfl⟩
      · have e := a2.ints
        subst e
        refine call_set_ints ns (I.ok.hd hc) pl.isList (by simpa using rv.ints) (by unfold scanBound; omega) fun h' tk R' k => ?_
        have hn : H s.heap.objs.size = none := I.hok.fresh (Nat.le_refl _)
        have J : Inv X pins σ (upd H s.heap.objs.size (SetO X.w s.heap.objs.size (fun j => decide (j ∈ ns)) (nub ns).length)) { s with heap := h', toks := tk } :=
          I.un (Un.laid k (Nat.le_refl _) hn) (I.hok.laid k (Nat.le_refl _) (setO_new R'))
        exact ⟨.ref s.heap.objs.size, _, J, rfl, q.ob s0 _ hn⟩
      · have e := a2.strs
        subst e
        have ev : (zs.map V.str) = ((zs.map Sum.inr : List Key).map kV) := by rw [List.map_map]; rfl
        rw [ev] at rv
        refine call_set_keys (zs.map Sum.inr) (I.ok.hd hc) pl.isList (by simpa using rv) (by rw [List.length_map]; unfold scanBound; omega) fun h' tk R' k => ?_
        have hn : H s.heap.objs.size = none := I.hok.fresh (Nat.le_refl _)
        have J : Inv X pins σ (upd H s.heap.objs.size (SetK X.prog X.w s.heap.objs.size (hasK (zs.map Sum.inr)) (nub (zs.map Sum.inr : List Key)).length)) { s with heap := h', toks := tk } :=
          I.un (Un.laid k (Nat.le_refl _) hn) (I.hok.laid k (Nat.le_refl _) (setK_new R'))
        exact ⟨.ref s.heap.objs.size, _, J, rfl, q.ob s0 _ hn⟩
  · exact hf.elim
/-- len of anything, a set too -/
def fLenA (P : Program) (w : World) : List RD → RD → Prop := fun rs d => fLen rs d ∨ (∃ S n, rs = [.ob fun p => SetO w p S n] ∧ n ≤ 4000 ∧ d = .dat (.int (n : Nat))) ∨ ∃ S n, rs = [.ob fun p => SetK P w p S n] ∧ n ≤ 4000 ∧ d = .dat (.int (n : Nat))
theorem cD_lenA : CallR X (.builtin "len") (rDs X.K (fLenA X.prog X.w)) := by
  intro pins s σ H xs us Q I r h
  obtain ⟨H0, rs, d, s0, ha, hf, q⟩ := h
  rcases hf with hf | ⟨S, n, rfl, hz, rfl⟩ | ⟨S, n, rfl, hz, rfl⟩
  · exact cD_len pins s σ H xs us Q I r ⟨H0, rs, d, s0, ha, hf, q⟩
  · obtain ⟨x, rfl, p, rfl, hp⟩ := rv1 ha
    obtain ⟨u, rfl, rx⟩ := vals1 r
    cases rx
    obtain ⟨o, es, ep, t, ho, hex, hd, _, _, _, _, hfit, hn, _⟩ := setO_get I (s0 _ _ hp)
    refine call_len_set ho hex hd hfit (by omega) ⟨.int (n : Nat), H, ?_, ⟨s.toks + 1, by rw [hn]⟩, q.now s0 (Dq.int _)⟩
    exact (I.tok _).tok _
  · obtain ⟨x, rfl, p, rfl, hp⟩ := rv1 ha
    obtain ⟨u, rfl, rx⟩ := vals1 r
    cases rx
    obtain ⟨o, es, ep, t, ho, hex, hd, _, _, _, hfit, hn⟩ := setK_get I (s0 _ _ hp)
    refine call_len_set ho hex hd hfit (by omega) ⟨.int (n : Nat), H, ?_, ⟨s.toks + 1, by rw [hn]⟩, q.now s0 (Dq.int _)⟩
    exact (I.tok _).tok _
/-- the ints of a list, each once, rising -/
def risen (ns : List Int) : List Int := (nub ns).mergeSort (fun a b => decide (a ≤ b))
def fSortedSet (w : World) : List RD → RD → Prop := fun rs d => ∃ (ns ms : List Int), rs = [.ob fun p => SetO w p (fun j => decide (j ∈ ns)) (nub ns).length] ∧ (nub ns).length < 64 ∧ ms.Pairwise (· < ·) ∧ (∀ k, k ∈ ms ↔ k ∈ ns) ∧ d = .dat (.list (ms.map PyData.int))
theorem rising_one : ∀ {l m : List Int}, l.Pairwise (· < ·) → m.Pairwise (· < ·) → (∀ k, k ∈ l ↔ k ∈ m) → l = m
  | [], [], _, _, _ => rfl
  | [], b :: m, _, _, h => by have := (h b).mpr List.mem_cons_self; cases this
  | a :: l, [], _, _, h => by have := (h a).mp List.mem_cons_self; cases this
  | a :: l, b :: m, hl, hm, h => by
    obtain ⟨l1, l2⟩ := List.pairwise_cons.mp hl
    obtain ⟨m1, m2⟩ := List.pairwise_cons.mp hm
    have e : a = b := by
      rcases List.mem_cons.mp ((h a).mp List.mem_cons_self) with e | e
      · exact e
      · rcases List.mem_cons.mp ((h b).mpr List.mem_cons_self) with e2 | e2
        · exact e2.symm
        · have h1 := l1 b e2
          have h2 := m1 a e
          omega
    subst e
    rw [rising_one l2 m2 fun k => ?_]
    have hk := h k
    constructor
    · intro z
      have z1 := l1 k z
      rcases List.mem_cons.mp (hk.mp (List.mem_cons_of_mem _ z)) with e | e
      · omega
      · exact e
    · intro z
      have z1 := m1 k z
      rcases List.mem_cons.mp (hk.mpr (List.mem_cons_of_mem _ z)) with e | e
      · omega
      · exact e
theorem cD_sortedSet (hc : X.calm = true) : CallR X (.builtin "sorted") (rDs X.K (fSortedSet X.w)) := by
  intro pins s σ H xs us Q I r h
  obtain ⟨H0, rs, d, s0, ha, ⟨ns, ms, rfl, hz, hs, hm, rfl⟩, q⟩ := h
  obtain ⟨x, rfl, p, rfl, hp⟩ := rv1 ha
  refine cr_sortedSet hc pins s σ H _ us Q I r ⟨p, _, _, rfl, s0 _ _ hp, hz, fun ks p' h1 h2 h3 h4 => ?_⟩
  have e : ks = ms := rising_one h1 hs fun k => by rw [h2, hm, decide_eq_true_eq]
  subst e
  exact q.lst s0 DqAll.ofInts p' h4
end
end Wp
end
section
set_option Elab.async false
set_option linter.all false
set_option autoImplicit false
set_option maxRecDepth 100000
set_option maxHeartbeats 4000000
/-! WpO: lists that a def owns while it fills them -/
namespace Wp
open PySem L2
section
variable {K : PySem.W.Frag} {ps : List Addr} {G : Env} {M M1 M2 : List Mu} {te : TE} {F : Oc → Prop}
theorem dq_free {H H' : Hp} {v : V} {d : PyData} (h : Dq K H v d) (hf : flatD d = true) : Dq K H' v d := by
  cases h with
  | non => exact .non
  | bl b => exact .bl b
  | int i => exact .int i
  | str x => exact .str x
  | lst a b => cases hf
  | tup a b => cases hf
/-- nothing owned is touched -/
theorem ev_lift {r : RD} (h : EvG K [] te G [] r []) : EvG K ps te G M r M := fun σ H0 H Q s e m q =>
  h σ H0 H Q s e MOk.nil fun v H1 H1' g _ d => q v H1 H1' (g.mono fun _ z => nomatch z) (m.keep g fun _ _ z => nomatch z) d
/-- an owned list is read, what comes is flat -/
theorem ev_flat {i j : Nat} {p : Addr} {ds : List PyData} {d : PyData} (h : EvG K [] te (G.set i (some (.dat (.list ds)))) [] (.dat d) []) (hf : flatD d = true) (hi : G[i]? = some (some (.raw (.ref p)))) (hp : ps[j]? = some p) (hM : M[j]? = some (.lst ds)) :
    EvG K ps te G M (.dat d) M := fun σ H0 H Q s e m q => by
  obtain ⟨xs, a, b⟩ := m.at' j p _ hp hM
  have h0 : H0 p = none := (m.out p (List.mem_of_getElem? hp)).1
  have s1 : Same H0 (upd H0 p (.lst xs)) := fun z o e => by rw [upd_ne (ne_of_none e h0)]; exact e
  have s2 : Same (upd H0 p (.lst xs)) H := fun z o e => by
    by_cases hz : z = p
    · subst hz; rw [upd_same] at e; rw [a]; exact e
    · rw [upd_ne hz] at e; exact s z o e
  obtain ⟨v, hv, rv⟩ := e.at' i _ hi
  have rv' : v = .ref p := rv
  subst rv'
  have e1 : EnvOk K (upd H0 p (.lst xs)) σ (G.set i (some (.dat (.list ds)))) := by
    have e2 := (e.mono s1).set (v := .ref p) (r := .dat (.list ds)) i (Dq.lst upd_same (DqAll.mono s1 _ _ b))
    have e3 : σ.set i (some (.ref p)) = σ := by
      apply List.ext_getElem?
      intro k
      by_cases hk : i = k
      · subst hk
        rw [List.getElem?_set_self (List.getElem?_eq_some_iff.mp hv).1, hv]
      · rw [List.getElem?_set_ne hk]
    rw [e3] at e2
    exact e2
  refine h σ _ H Q s2 e1 MOk.nil fun v H1 H1' g _ d1 => ?_
  have g2 : Gr (Wn ps) H0 H H0 H1' := ⟨Same.refl _, fun z o _ e => g.hi z o (fun y => nomatch y) e, fun _ z _ => z, g.th, fun z o e => g.hi z o (fun y => nomatch y) (s z o e)⟩
  exact q v H0 H1' g2 ⟨m.nd, m.len, fun p hp => ⟨(m.out p hp).1, g.th p (m.out p hp).2⟩, fun j p x e1 e2 => (m.at' j p x e1 e2).keep (Same.refl _) fun o => g.hi p o fun y => nomatch y⟩ (dq_free d1 hf)
theorem et_flat {tt : TT} {i j : Nat} {p : Addr} {ds : List PyData} {b : Bool} (h : EtG K [] tt (G.set i (some (.dat (.list ds)))) [] b []) (hi : G[i]? = some (some (.raw (.ref p)))) (hp : ps[j]? = some p) (hM : M[j]? = some (.lst ds)) :
    EtG K ps tt G M b M := fun σ H0 H Q s e m q => by
  obtain ⟨xs, a, b⟩ := m.at' j p _ hp hM
  have h0 : H0 p = none := (m.out p (List.mem_of_getElem? hp)).1
  have s1 : Same H0 (upd H0 p (.lst xs)) := fun z o e => by rw [upd_ne (ne_of_none e h0)]; exact e
  have s2 : Same (upd H0 p (.lst xs)) H := fun z o e => by
    by_cases hz : z = p
    · subst hz; rw [upd_same] at e; rw [a]; exact e
    · rw [upd_ne hz] at e; exact s z o e
  obtain ⟨v, hv, rv⟩ := e.at' i _ hi
  have rv' : v = .ref p := rv
  subst rv'
  have e1 : EnvOk K (upd H0 p (.lst xs)) σ (G.set i (some (.dat (.list ds)))) := by
    have e2 := (e.mono s1).set (v := .ref p) (r := .dat (.list ds)) i (Dq.lst upd_same (DqAll.mono s1 _ _ b))
    have e3 : σ.set i (some (.ref p)) = σ := by
      apply List.ext_getElem?
      intro k
      by_cases hk : i = k
      · subst hk
        rw [List.getElem?_set_self (List.getElem?_eq_some_iff.mp hv).1, hv]
      · rw [List.getElem?_set_ne hk]
    rw [e3] at e2
    exact e2
  refine h σ _ H Q s2 e1 MOk.nil fun H1 H1' g _ => ?_
  have g2 : Gr (Wn ps) H0 H H0 H1' := ⟨Same.refl _, fun z o _ e => g.hi z o (fun y => nomatch y) e, fun _ z _ => z, g.th, fun z o e => g.hi z o (fun y => nomatch y) (s z o e)⟩
  exact q H0 H1' g2 ⟨m.nd, m.len, fun p hp => ⟨(m.out p hp).1, g.th p (m.out p hp).2⟩, fun j p x e1 e2 => (m.at' j p x e1 e2).keep (Same.refl _) fun o => g.hi p o fun y => nomatch y⟩
/-- an item of an owned list -/
theorem MOk.put {H0 H : Hp} {j : Nat} {p : Addr} {o : HO} {x : Mu} (m : MOk K ps M H0 H) (hp : ps[j]? = some p) (hx : ∀ H', H' p = some o → MuOk K H0 H' p x) : MOk K ps (M.set j x) H0 (upd H p o) := by
  refine ⟨m.nd, by rw [List.length_set]; exact m.len, fun q hq => ⟨(m.out q hq).1, fun z => ?_⟩, fun k q y e1 e2 => ?_⟩
  · by_cases hz : q = p
    · subst hz; rw [upd_same] at z; cases z
    · rw [upd_ne hz] at z; exact (m.out q hq).2 z
  · by_cases hk : j = k
    · subst hk
      have eq' := Option.some.inj (e1.symm.trans hp)
      subst eq'
      rw [List.getElem?_set] at e2
      rw [if_pos rfl] at e2
      split at e2
      · have e3 := Option.some.inj e2
        subst e3
        exact hx _ upd_same
      · cases e2
    · rw [List.getElem?_set_ne hk] at e2
      have hne : q ≠ p := fun z => by
        subst z
        exact hk (nd_ix m.nd hp e1)
      exact (m.at' k q y e1 e2).keep (Same.refl _) fun u h => by rw [upd_ne hne]; exact h
/-- xs.append(e) -/
theorem sv_app {to : TE} {j : Nat} {p : Addr} {ds : List PyData} {d : PyData} (ho : EvG K ps to G M (.raw (.ref p)) M) (h : EvG K ps te G M (.dat d) M1) (hp : ps[j]? = some p) (hM : M[j]? = some (.lst ds)) (hM1 : M1[j]? = some (.lst ds)) (hl : ds.length ≤ big)
    (f : F (.nx G (M1.set j (.lst (ds ++ [d]))))) : SvP K ps (tDrop (tBM K "list" rAppend to (tCons te tNil))) G M F := fun D σ H0 H s e m q =>
  ho σ H0 H _ s e m fun v H1 H1' g1 m1 d1 => by
    have d1' : v = .ref p := d1
    subst d1'
    obtain ⟨xs, a, b⟩ := m1.at' j p _ hp hM
    refine ⟨.inl ⟨rfl, _, SqL.of a⟩, h σ H1 H1' _ g1.sub (e.mono g1.lo) m1 fun y H2 H2' g2 m2 d2 => ?_⟩
    obtain ⟨ys, a2, b2⟩ := m2.at' j p _ hp hM1
    have hl2 := b2.length
    refine ⟨p, ys, y, rfl, rfl, a2, by rw [sizeLine_eq]; unfold big at hl; omega, ?_⟩
    have hw : Wn ps p := List.mem_of_getElem? hp
    have g3 : Gr (Wn ps) H2 H2' H2 (upd H2' p (.lst (ys ++ [y]))) := Gr.put g2.sub hw (m2.out p hw).1
    exact q _ f σ H2 _ ((g1.trans g2).trans g3) ((e.mono g1.lo).mono g2.lo) (m2.put hp fun H' h => ⟨_, h, b2.append (.cons d2 .nil)⟩)
/-- xs.extend(ys), ys a list just made -/
theorem sv_ext {to : TE} {j : Nat} {p : Addr} {ds es : List PyData} (ho : EvG K ps to G M (.raw (.ref p)) M) (h : EvG K ps te G M (.dat (.list es)) M1) (hp : ps[j]? = some p) (hM : M[j]? = some (.lst ds)) (hM1 : M1[j]? = some (.lst ds)) (hl : ds.length + es.length ≤ big)
    (f : F (.nx G (M1.set j (.lst (ds ++ es))))) : SvP K ps (tDrop (tBM K "list" rExtend to (tCons te tNil))) G M F := fun D σ H0 H s e m q =>
  ho σ H0 H _ s e m fun v H1 H1' g1 m1 d1 => by
    have d1' : v = .ref p := d1
    subst d1'
    obtain ⟨xs, a, b⟩ := m1.at' j p _ hp hM
    refine ⟨.inl ⟨rfl, _, SqL.of a⟩, h σ H1 H1' _ g1.sub (e.mono g1.lo) m1 fun y H2 H2' g2 m2 d2 => ?_⟩
    obtain ⟨ys, a2, b2⟩ := m2.at' j p _ hp hM1
    have hl2 := b2.length
    cases d2 with
    | @lst _ zs _ c1 c2 =>
      have hl3 := c2.length
      refine ⟨p, _, ys, _, rfl, rfl, a2, g2.sub _ _ c1, by rw [sizeLine_eq]; unfold big at hl; omega, ?_⟩
      have hw : Wn ps p := List.mem_of_getElem? hp
      have g3 : Gr (Wn ps) H2 H2' H2 (upd H2' p (.lst (ys ++ zs))) := Gr.put g2.sub hw (m2.out p hw).1
      exact q _ f σ H2 _ ((g1.trans g2).trans g3) ((e.mono g1.lo).mono g2.lo) (m2.put hp fun H' h => ⟨_, h, b2.append c2⟩)
/-- tuple(xs) of an owned list -/
theorem ev_tupOwn {to : TE} {j : Nat} {p : Addr} {ds : List PyData} (ho : EvG K ps to G M (.raw (.ref p)) M1) (hp : ps[j]? = some p) (hM : M1[j]? = some (.lst ds)) :
    EvG K ps (tCB (fun xs H Q => ∃ p ys, xs = [.ref p] ∧ ((SqL K H p ys ∧ ∀ l, H l = none → Q (.ref l) (upd H l (.tup ys))) ∨ (SqT K H p ys ∧ Q (.ref p) H))) (tCons to tNil)) G M (.dat (.tuple ds)) M1 := fun σ H0 H Q s e m q =>
  ho σ H0 H _ s e m fun v H1 H1' g1 m1 d1 => by
    have d1' : v = .ref p := d1
    subst d1'
    obtain ⟨xs, a, b⟩ := m1.at' j p _ hp hM
    exact ⟨p, xs, rfl, .inl ⟨SqL.of a, (out_at m1 fun v H3 H3' g3 m3 d3 => q v H3 H3' (g1.trans g3) m3 d3).tup g1.sub b⟩⟩
/-- xs[i] of an owned list -/
theorem ev_ixOwn {to ti : TE} {j : Nat} {p : Addr} {ds : List PyData} {i : Int} {d : PyData} (ho : EvG K ps to G M (.raw (.ref p)) M1) (hi : EvG K ps ti G M1 (.dat (.int i)) M2) (hp : ps[j]? = some p) (hM : M2[j]? = some (.lst ds)) (hd : L2.atI ds i = some d) :
    EvG K ps (tOp (rIxL K) to ti) G M (.dat d) M2 := fun σ H0 H Q s e m q =>
  ho σ H0 H _ s e m fun v H1 H1' g1 m1 d1 => by
    have d1' : v = .ref p := d1
    subst d1'
    refine hi σ H1 H1' _ g1.sub (e.mono g1.lo) m1 fun y H2 H2' g2 m2 d2 => ?_
    cases d2
    obtain ⟨xs, a, b⟩ := m2.at' j p _ hp hM
    obtain ⟨u, hu, du⟩ := b.atI hd
    exact ⟨p, xs, i, u, rfl, rfl, SqL.of a, hu, q u H2 H2' (g1.trans g2) m2 du⟩
theorem DqAll.setq {H : Hp} {v : V} {d : PyData} (hv : Dq K H v d) : ∀ {ds : List PyData} {vs : List V} (_ : DqAll K H vs ds) (k : Nat), DqAll K H (vs.set k v) (ds.set k d)
  | [], _, h, _ => by cases h; exact .nil
  | _ :: _, _, h, 0 => by
    cases h with
    | cons a b => exact .cons hv b
  | _ :: _, _, h, k + 1 => by
    cases h with
    | cons a b => exact .cons a (DqAll.setq hv b k)
/-- xs[i] = e of an owned list -/
theorem sv_setOwn {to ti : TE} {j k : Nat} {p : Addr} {ds : List PyData} {i : Int} {d : PyData} (h : EvG K ps te G M (.dat d) M1) (ho : EvG K ps to G M1 (.raw (.ref p)) M1) (hi : EvG K ps ti G M1 (.dat (.int i)) M1) (hp : ps[j]? = some p) (hM : M1[j]? = some (.lst ds)) (hk : ixN ds.length i = some k)
    (f : F (.nx G (M1.set j (.lst (ds.set k d))))) : SvP K ps (tAsg te (gSub to ti rSetL)) G M F := fun D σ H0 H s e m q =>
  h σ H0 H _ s e m fun y H1 H1' g1 m1 d1 => ho σ H1 H1' _ g1.sub (e.mono g1.lo) m1 fun v H2 H2' g2 m2 d2 => by
    have d2' : v = .ref p := d2
    subst d2'
    refine hi σ H2 H2' _ g2.sub ((e.mono g1.lo).mono g2.lo) m2 fun z H3 H3' g3 m3 d3 => ?_
    cases d3
    obtain ⟨xs, a, b⟩ := m3.at' j p _ hp hM
    have hw : Wn ps p := List.mem_of_getElem? hp
    refine ⟨p, xs, i, k, rfl, rfl, a, by rw [b.length]; exact hk, ?_⟩
    have g4 : Gr (Wn ps) H3 H3' H3 (upd H3' p (.lst (xs.set k y))) := Gr.put g3.sub hw (m3.out p hw).1
    exact q _ f σ H3 _ (((g1.trans g2).trans g3).trans g4) (((e.mono g1.lo).mono g2.lo).mono g3.lo) (m3.put hp fun H' h => ⟨_, h, DqAll.setq (Dq.mono (g2.lo.trans g3.lo) _ _ d1) b k⟩)
/-! ### a new owned list, to the def's end -/
def backF (p : Addr) (F : Oc → Prop) : Oc → Prop
  | .rt (.raw v) M2 => ∃ M' ds, v = .ref p ∧ M2 = M' ++ [.lst ds] ∧ F (.rt (.dat (.list ds)) M')
  | .rt r M2 => ∃ M' m, M2 = M' ++ [m] ∧ F (.rt r M')
  | _ => False
theorem mok_snoc {H0 H H1 : Hp} {p : Addr} {o : HO} {x : Mu} (m : MOk K ps M H0 H) (s : Same H0 H) (hp : H p = none) (hx : MuOk K H0 (upd H p o) p x) : MOk K (ps ++ [p]) (M ++ [x]) H0 (upd H p o) := by
  have hps := fresh_ps m hp
  have h0 : H0 p = none := by
    cases q : H0 p with
    | none => rfl
    | some u => rw [s _ _ q] at hp; cases hp
  refine ⟨List.nodup_append.mpr ⟨m.nd, List.nodup_cons.mpr ⟨List.not_mem_nil, .nil⟩, fun a ha b hb e => ?_⟩, by rw [List.length_append, List.length_append, m.len]; rfl, fun q hq => ?_, fun j q y e1 e2 => ?_⟩
  · rw [List.mem_singleton.mp hb] at e
    exact hps (e ▸ ha)
  · rcases List.mem_append.mp hq with hq | hq
    · have hne : q ≠ p := fun e => hps (e ▸ hq)
      rw [upd_ne hne]
      exact m.out q hq
    · rw [List.mem_singleton.mp hq]
      exact ⟨h0, by rw [upd_same]; exact fun z => nomatch z⟩
  · by_cases hj : j < ps.length
    · rw [List.getElem?_append_left hj] at e1
      rw [List.getElem?_append_left (by rw [m.len]; exact hj)] at e2
      have hne : q ≠ p := fun e => hps (e ▸ List.mem_of_getElem? e1)
      exact (m.at' j q y e1 e2).keep (Same.refl _) fun u h => by rw [upd_ne hne]; exact h
    · have hj' : ps.length ≤ j := Nat.le_of_not_lt hj
      rw [List.getElem?_append_right hj'] at e1
      rw [List.getElem?_append_right (by rw [m.len]; exact hj'), m.len] at e2
      have hk : j - ps.length = 0 := by
        have := (List.getElem?_eq_some_iff.mp e1).1
        simp at this
        omega
      rw [hk] at e1 e2
      have q1 := Option.some.inj e1
      have q2 := Option.some.inj e2
      subst q1 q2
      exact hx
theorem mok_head {H0 H : Hp} {p : Addr} {x : Mu} (m : MOk K (ps ++ [p]) (M ++ [x]) H0 H) : MOk K ps M H0 H := by
  have hl : M.length = ps.length := by
    have := m.len
    rw [List.length_append, List.length_append] at this
    simp at this
    exact this
  refine ⟨(List.nodup_append.mp m.nd).1, hl, fun q hq => m.out q (List.mem_append_left _ hq), fun j q y e1 e2 => ?_⟩
  have hj := (List.getElem?_eq_some_iff.mp e1).1
  exact m.at' j q y (by rw [List.getElem?_append_left hj]; exact e1) (by rw [List.getElem?_append_left (by rw [hl]; exact hj)]; exact e2)
theorem mok_last {H0 H : Hp} {p : Addr} {x : Mu} (m : MOk K (ps ++ [p]) (M ++ [x]) H0 H) : MuOk K H0 H p x ∧ H0 p = none ∧ p ∉ ps := by
  have hl : M.length = ps.length := by
    have := m.len
    rw [List.length_append, List.length_append] at this
    simp at this
    exact this
  refine ⟨m.at' ps.length p x (by simp) (by rw [← hl]; simp), (m.out p (by simp)).1, fun h => ?_⟩
  have := (List.nodup_append.mp m.nd).2.2 p h p (by simp)
  exact this rfl
theorem gr_back {H0 H H1 H' : Hp} {p : Addr} {o : HO} (hp : H p = none) (g : Gr (Wn (ps ++ [p])) H0 (upd H p o) H1 H') : Gr (Wn ps) H0 H H1 H' where
  lo := g.lo
  hi := fun a u w e => by
    have hne : a ≠ p := ne_of_none e hp
    exact g.hi a u (fun z => (List.mem_append.mp z).elim w fun y => hne (List.mem_singleton.mp y)) (by rw [upd_ne hne]; exact e)
  fr := fun a e n => by
    have hne : a ≠ p := fun z => n (by rw [z]; exact hp)
    exact g.fr a e (by rw [upd_ne hne]; exact n)
  th := fun a n => by
    have hne : a ≠ p := fun z => n (by rw [z]; exact hp)
    exact g.th a (by rw [upd_ne hne]; exact n)
  sub := g.sub
/-- what comes back in the larger ownership, told in the smaller -/
theorem cont_back {D : Ends} {H0 H H1 : Hp} {p : Addr} {o : HO} (hp : H p = none) (q : ∀ o, F o → Cont K ps D H0 H o) : ∀ oc, backF p F oc → Cont K (ps ++ [p]) D H0 (upd H p o) oc
  | .rt (.raw v) M2, h => by
    obtain ⟨M', ds, rfl, rfl, f⟩ := h
    intro u H1 H' g m r
    have r' : u = .ref p := r
    subst r'
    obtain ⟨⟨xs, a, b⟩, h0, hps⟩ := mok_last m
    have s1 : Same H1 (upd H1 p (.lst xs)) := fun z o e => by rw [upd_ne (ne_of_none e h0)]; exact e
    have gb := gr_back hp g
    have nD : ∀ a, H a ≠ none → a ≠ p := fun a n z => n (by rw [z]; exact hp)
    refine q _ f (.ref p) (upd H1 p (.lst xs)) H' ⟨gb.lo.trans s1, gb.hi, fun a e n => ?_, gb.th, fun z o e => ?_⟩ ?_ (Dq.lst upd_same (DqAll.mono s1 _ _ b))
    · rw [upd_ne (nD a n)]; exact gb.fr a e n
    · by_cases hz : z = p
      · subst hz; rw [upd_same] at e; rw [a]; exact e
      · rw [upd_ne hz] at e; exact g.sub z o e
    · have mh := mok_head m
      refine ⟨mh.nd, mh.len, fun q hq => ⟨?_, (mh.out q hq).2⟩, fun j q y e1 e2 => (mh.at' j q y e1 e2).keep s1 fun _ h => h⟩
      have hne : q ≠ p := fun e => hps (e ▸ hq)
      rw [upd_ne hne]
      exact (mh.out q hq).1
  | .rt (.dat d) M2, h => by
    obtain ⟨M', x, rfl, f⟩ := h
    intro u H1 H' g m r
    exact q _ f u H1 H' (gr_back hp g) (mok_head m) r
  | .rt (.ob d) M2, h => by
    obtain ⟨M', x, rfl, f⟩ := h
    intro u H1 H' g m r
    exact q _ f u H1 H' (gr_back hp g) (mok_head m) r
  | .rt (.sq d) M2, h => by
    obtain ⟨M', x, rfl, f⟩ := h
    intro u H1 H' g m r
    exact q _ f u H1 H' (gr_back hp g) (mok_head m) r
  | .nx _ _, h => h.elim
  | .bk _ _, h => h.elim
  | .ct _ _, h => h.elim
/-- x = [..], x owned from here on -/
theorem sv_newL {i : Nat} {t : TA} {u : TS} {ds : List PyData} (h : EaG K ps t G M (ds.map .dat) M1) (hl : ds.length ≤ big := by decide)
    (k : ∀ p, SvP K (ps ++ [p]) u (G.set i (some (.raw (.ref p)))) (M1 ++ [.lst ds]) (backF p F)) : SvP K ps (tSeq (tAsg (tLst t) (gName i)) u) G M F := fun D σ H0 H s e m q =>
  h σ H0 H _ s e m fun vs H1 H1' g m1 d => ⟨by rw [d.dat.length]; exact big_le hl, fun p hp => by
    refine k p D _ H1 (upd H1' p (.lst vs)) (Gr.newM (W := Pure) g.sub hp).sub ((e.mono g.lo).set i rfl) (mok_snoc (H1 := H1) m1 g.sub hp ⟨vs, upd_same, d.dat⟩) (cont_back (H1 := H1) hp fun o fo => (q o fo).after g)⟩
/-- x, y = [..], e: x owned from here on -/
theorem sv_newL2 {i j : Nat} {t : TA} {u : TS} {r : RD} {ds : List PyData} (h : EaG K ps t G M (ds.map .dat) M1) (hl : ds.length ≤ big := by decide)
    (k : ∀ p, EvG K (ps ++ [p]) te G (M1 ++ [.lst ds]) r (M2 ++ [.lst ds]) ∧ SvP K (ps ++ [p]) u ((G.set i (some (.raw (.ref p)))).set j (some r)) (M2 ++ [.lst ds]) (backF p F)) : SvP K ps (tSeq (tPar i j (tCons (tLst t) (tCons te tNil))) u) G M F := fun D σ H0 H s e m q =>
  h σ H0 H _ s e m fun vs H1 H1' g m1 d => ⟨by rw [d.dat.length]; exact big_le hl, fun p hp => by
    obtain ⟨k1, k2⟩ := k p
    have s1 := (Gr.newM (W := Pure) (o := .lst vs) g.sub hp).sub
    have m2 := mok_snoc (H1 := H1) (o := .lst vs) (x := .lst ds) m1 g.sub hp ⟨vs, upd_same, d.dat⟩
    refine k1 σ H1 (upd H1' p (.lst vs)) _ s1 (e.mono g.lo) m2 fun v H3 H3' g3 m3 d3 => ⟨_, _, rfl, ?_⟩
    refine k2 D _ H3 H3' g3.sub ((((e.mono g.lo).mono g3.lo).set i (r := .raw (.ref p)) rfl).set j d3) m3 fun o fo => ?_
    exact (cont_back (H1 := H1) hp (fun o fo => (q o fo).after g) o fo).after g3⟩
/-! ### a def whose first argument is a list that it may change -/
def spO (K : PySem.W.Frag) (F : List RD → List PyData → RD → List PyData → Prop) : Sp := fun vs H Q _ => ∃ (p : Addr) (H0 : Hp) (rest : List V) (rs : List RD) (st : List PyData) (r : RD) (st' : List PyData), vs = .ref p :: rest ∧ Same H0 H ∧ MOk K [p] [.lst st] H0 H ∧ RvAll K H0 rest rs ∧ F rs st r st' ∧
  ∀ v H0' H', Gr (Wn [p]) H0 H H0' H' → MOk K [p] [.lst st'] H0' H' → Rv K H0' v r → Q v H'
theorem mok_one {H0 H : Hp} {j : Nat} {p : Addr} {x : Mu} (m : MOk K ps M H0 H) (hp : ps[j]? = some p) (hM : M[j]? = some x) : MOk K [p] [x] H0 H := by
  refine ⟨List.nodup_cons.mpr ⟨List.not_mem_nil, .nil⟩, rfl, fun q hq => ?_, fun k q y e1 e2 => ?_⟩
  · rw [List.mem_singleton.mp hq]; exact m.out p (List.mem_of_getElem? hp)
  · cases k with
    | zero =>
      have q1 := Option.some.inj e1
      have q2 := Option.some.inj e2
      subst q1 q2
      exact m.at' j p x hp hM
    | succ k => simp at e1
theorem mok_from {H0 H H1 H1' : Hp} {j : Nat} {p : Addr} {x x' : Mu} (m : MOk K ps M H0 H) (hp : ps[j]? = some p) (g : Gr (Wn [p]) H0 H H1 H1') (m1 : MOk K [p] [x'] H1 H1') : MOk K ps (M.set j x') H1 H1' := by
  refine ⟨m.nd, by rw [List.length_set]; exact m.len, fun q hq => ⟨g.fr q (m.out q hq).1 (m.out q hq).2, g.th q (m.out q hq).2⟩, fun k q y e1 e2 => ?_⟩
  by_cases hk : j = k
  · subst hk
    have eq' := Option.some.inj (e1.symm.trans hp)
    subst eq'
    rw [List.getElem?_set] at e2
    rw [if_pos rfl] at e2
    split at e2
    · have e3 := Option.some.inj e2
      subst e3
      exact m1.at' 0 q x' rfl rfl
    · cases e2
  · rw [List.getElem?_set_ne hk] at e2
    have hne : q ≠ p := fun z => by
      subst z
      exact hk (nd_ix m.nd hp e1)
    exact (m.at' k q y e1 e2).keep g.lo fun u h => g.hi q u (fun z => hne (List.mem_singleton.mp z)) h
theorem ev_callO {F : List RD → List PyData → RD → List PyData → Prop} {t : TA} {E : XK} {j : Nat} {p : Addr} {rs : List RD} {st st' : List PyData} {r : RD} (ha : EaG K ps t G M (.raw (.ref p) :: rs) M1) (hp : ps[j]? = some p) (hM : M1[j]? = some (.lst st)) (h : F rs st r st') :
    EvG K ps (tCall (spO K F) [] E t) G M r (M1.set j (.lst st')) := fun σ H0 H Q s e m q =>
  ha σ H0 H _ s e m fun xs H1 H1' g1 m1 d1 => by
    cases d1 with
    | cons a b =>
      have a' : _ = V.ref p := a
      subst a'
      refine ⟨p, H1, _, rs, st, r, st', by rw [List.append_nil], g1.sub, mok_one m1 hp hM, b, h, fun v H2 H2' g2 m2 d2 => ?_⟩
      exact q v H2 H2' (g1.trans (g2.mono fun x hx => by rw [List.mem_singleton.mp hx]; exact List.mem_of_getElem? hp)) (mok_from (x := .lst st) m1 hp g2 m2) d2
theorem body_endO {N : List Str} {vs rest : List V} {H H0 : Hp} {Q : VK} {p : Addr} {rs : List RD} {r : RD} {st st' : List PyData} {t : TS} (s : Same H0 H) (hv : vs = .ref p :: rest) (m : MOk K [p] [.lst st] H0 H) (hd : RvAll K H0 rest rs)
    (q : ∀ v H0' H', Gr (Wn [p]) H0 H H0' H' → MOk K [p] [.lst st'] H0' H' → Rv K H0' v r → Q v H')
    (h : SvP K [p] t ((RD.raw (.ref p) :: rs).map some ++ List.replicate (N.length - (rs.length + 1)) none) [.lst st] (fun o => o = .rt r [.lst st'])) : t { nx := fun _ H' => Q .non H', rt := Q } (L2.start N vs) H := by
  subst hv
  have e := EnvOk.start N (RvAll.cons (r := .raw (.ref p)) (show Rv K H0 (.ref p) (.raw (.ref p)) from rfl) hd)
  refine h _ _ H0 H s e m fun o ho => ?_
  subst ho
  exact fun v H0' H' g m dv => q v H0' H' g m dv
end
end Wp
end
section
set_option Elab.async false
set_option linter.all false
set_option autoImplicit false
set_option maxRecDepth 100000
set_option maxHeartbeats 4000000
/-! WpF: boards, stands as data -/
namespace Wp
open PySem L2 Wm

/-! ### typed data -/
class En (α : Type) where
  e : α → PyData
  inj : ∀ a b, PyData.eqv (e a) (e b) = true ↔ a = b
  lay : ∀ a, (e a).canLay0 = true
  dp : Nat
  dep : ∀ a, (e a).depth ≤ dp
section
variable {α β : Type} [En α] [En β]
theorem En.eq [DecidableEq α] (a b : α) : PyData.eqv (En.e a) (En.e b) = decide (a = b) := by
  rw [Bool.eq_iff_iff, En.inj, decide_eq_true_eq]
theorem eqvAll_e : ∀ (xs ys : List α), PyData.eqvAll (xs.map En.e) (ys.map En.e) = true ↔ xs = ys
  | [], [] => by simp [PyData.eqvAll]
  | [], _ :: _ => by simp [PyData.eqvAll]
  | _ :: _, [] => by simp [PyData.eqvAll]
  | x :: xs, y :: ys => by
    rw [List.map_cons, List.map_cons, PyData.eqvAll, Bool.and_eq_true, En.inj, eqvAll_e xs ys, List.cons.injEq]
theorem layAll_e : ∀ (xs : List α), PyData.canLayAll0 (xs.map En.e) = true
  | [] => rfl
  | x :: xs => by rw [List.map_cons, PyData.canLayAll0, En.lay, layAll_e xs]; rfl
theorem depAll_e : ∀ (xs : List α), PyData.depthAll (xs.map En.e) ≤ En.dp α
  | [] => Nat.zero_le _
  | x :: xs => by rw [List.map_cons, PyData.depthAll]; exact Nat.max_le.mpr ⟨En.dep x, depAll_e xs⟩
instance : En Int where
  e := .int
  inj a b := by simp [PyData.eqv]
  lay _ := rfl
  dp := 0
  dep _ := Nat.le_refl _
instance : En Nat where
  e n := .int (n : Int)
  inj a b := by simp only [PyData.eqv, beq_iff_eq]; omega
  lay _ := rfl
  dp := 0
  dep _ := Nat.le_refl _
instance : En Bool where
  e := .bool
  inj a b := by simp [PyData.eqv]
  lay _ := rfl
  dp := 0
  dep _ := Nat.le_refl _
/-- a tuple of things of one kind -/
structure Tp (α : Type) where
  items : List α
  deriving DecidableEq
instance : En (Tp α) where
  e t := .tuple (t.items.map En.e)
  inj a b := by
    simp only [PyData.eqv]
    rw [eqvAll_e]
    exact ⟨fun h => by cases a; cases b; exact congrArg Tp.mk h, fun h => by rw [h]⟩
  lay t := by simp only [PyData.canLay0]; exact layAll_e _
  dp := En.dp α + 1
  dep t := by simp only [PyData.depth]; exact Nat.succ_le_succ (depAll_e _)
instance : En (List α) where
  e t := .list (t.map En.e)
  inj a b := by
    simp only [PyData.eqv]
    exact eqvAll_e _ _
  lay t := by simp only [PyData.canLay0]; exact layAll_e _
  dp := En.dp α + 1
  dep t := by simp only [PyData.depth]; exact Nat.succ_le_succ (depAll_e _)
instance : En (α × β) where
  e p := .tuple [En.e p.1, En.e p.2]
  inj a b := by
    simp only [PyData.eqv, PyData.eqvAll, Bool.and_true, Bool.and_eq_true, En.inj]
    exact ⟨fun h => Prod.ext h.1 h.2, fun h => by rw [h]; exact ⟨rfl, rfl⟩⟩
  lay p := by simp only [PyData.canLay0, PyData.canLayAll0, En.lay]; rfl
  dp := max (En.dp α) (En.dp β) + 1
  dep p := by
    simp only [PyData.depth, PyData.depthAll]
    exact Nat.succ_le_succ (Nat.max_le.mpr ⟨Nat.le_trans (En.dep _) (Nat.le_max_left _ _), Nat.max_le.mpr ⟨Nat.le_trans (En.dep _) (Nat.le_max_right _ _), Nat.zero_le _⟩⟩)
theorem sh (a : α) (h : En.dp α ≤ 64 := by decide) : SeqAt.shaped (En.e a) = true := by
  unfold SeqAt.shaped
  rw [En.lay, Bool.true_and]
  exact decide_eq_true (Nat.le_trans (En.dep a) h)
theorem dEq_e [DecidableEq α] (a b : α) (h : En.dp α ≤ 64 := by decide) : dEq false (.dat (En.e a)) (.dat (En.e b)) (.dat (.bool (decide (a = b)))) :=
  ⟨by rw [En.eq]; rfl, sh a h, sh b h⟩
theorem dNe_e [DecidableEq α] (a b : α) (h : En.dp α ≤ 64 := by decide) : dEq true (.dat (En.e a)) (.dat (En.e b)) (.dat (.bool (!decide (a = b)))) :=
  ⟨by rw [En.eq]; rfl, sh a h, sh b h⟩
end
def wayS : Way → Str
  | .left => "left"
  | .right => "right"
def wordS : Word → Str
  | .ahead => "ahead"
  | .behind => "behind"
instance : En Way where
  e w := .str (wayS w)
  inj a b := by cases a <;> cases b <;> simp [PyData.eqv, wayS] <;> decide
  lay w := by cases w <;> decide +kernel
  dp := 0
  dep _ := Nat.le_refl _
instance : En Word where
  e w := .str (wordS w)
  inj a b := by cases a <;> cases b <;> simp [PyData.eqv, wordS] <;> decide
  lay w := by cases w <;> decide +kernel
  dp := 0
  dep _ := Nat.le_refl _
abbrev eW (w : Way) : PyData := .str (wayS w)
abbrev eO (w : Word) : PyData := .str (wordS w)
abbrev eP (p : Pin) : PyData := .tuple [.int p.x, .int p.y, eW p.way]
abbrev eB (b : Board) : PyData := .tuple (b.map eP)
abbrev eS (s : Stand) : PyData := .tuple [.int (s.own : Int), .int (s.last : Int), eO s.word]
abbrev eD (d : Dir) : PyData := .tuple [.int d.1, .int d.2]
abbrev eN (n : Nat) : PyData := .int (n : Int)
/-- a row of pins' numbers -/
abbrev eR (r : List Nat) : PyData := .tuple (r.map eN)
instance : En Pin where
  e := eP
  inj a b := by
    have h := En.inj (α := Way) a.way b.way
    simp only [PyData.eqv, PyData.eqvAll, Bool.and_true, Bool.and_eq_true, beq_iff_eq]
    have h2 : (wayS a.way = wayS b.way) ↔ a.way = b.way := by
      rw [← h]
      show _ ↔ PyData.eqv (.str (wayS a.way)) (.str (wayS b.way)) = true
      simp only [PyData.eqv, beq_iff_eq]
    rw [h2]
    constructor
    · rintro ⟨h1, h3, h4⟩
      cases a; cases b
      simp only at h1 h3 h4
      subst h1 h3 h4
      rfl
    · rintro rfl
      exact ⟨rfl, rfl, rfl⟩
  lay p := by simp only [PyData.canLay0, PyData.canLayAll0]; cases p.way <;> decide +kernel
  dp := 1
  dep p := by simp only [PyData.depth, PyData.depthAll]; exact Nat.le_refl _
instance : En Stand where
  e := eS
  inj a b := by
    have h := En.inj (α := Word) a.word b.word
    simp only [PyData.eqv, PyData.eqvAll, Bool.and_true, Bool.and_eq_true, beq_iff_eq]
    have h2 : (wordS a.word = wordS b.word) ↔ a.word = b.word := by
      rw [← h]
      show _ ↔ PyData.eqv (.str (wordS a.word)) (.str (wordS b.word)) = true
      simp only [PyData.eqv, beq_iff_eq]
    rw [h2]
    constructor
    · rintro ⟨h1, h3, h4⟩
      cases a; cases b
      simp only at h1 h3 h4
      have h1' := Int.ofNat.inj h1
      have h3' := Int.ofNat.inj h3
      subst h1' h3' h4
      rfl
    · rintro rfl
      exact ⟨rfl, rfl, rfl⟩
  lay p := by simp only [PyData.canLay0, PyData.canLayAll0]; cases p.word <;> decide +kernel
  dp := 1
  dep p := by simp only [PyData.depth, PyData.depthAll]; exact Nat.le_refl _
theorem eB_eq (b : Board) : eB b = En.e (Tp.mk b) := rfl
theorem at_map {α : Type} {f : α → PyData} {xs : List α} {i : Nat} {x : α} (h : xs[i]? = some x) : L2.atI (xs.map f) ((i : Nat) : Int) = some (f x) := atI_nat (by rw [List.getElem?_map, h]; rfl)
theorem ix_pin {b : Board} {i : Nat} (h : i < b.length) : dIx (.dat (eB b)) (.dat (eN i)) (.dat (eP (pin b i))) := ⟨_, at_map (by
  show b[i]? = some (b.getD i _)
  rw [List.getD_eq_getElem?_getD, List.getElem?_eq_getElem h]; rfl), rfl⟩
theorem ix_row {r : List Nat} {i : Nat} {x : Nat} (h : r[i]? = some x) : dIx (.dat (eR r)) (.dat (eN i)) (.dat (eN x)) := ⟨_, at_map h, rfl⟩
theorem dEq_wayL (w : Way) : dEq false (.dat (eW w)) (.dat (.str "left")) (.dat (.bool (decide (w = .left)))) := dEq_e w Way.left
theorem dEq_wordA (w : Word) : dEq false (.dat (eO w)) (.dat (.str "ahead")) (.dat (.bool (decide (w = .ahead)))) := dEq_e w Word.ahead
theorem dEq_wordB (w : Word) : dEq false (.dat (eO w)) (.dat (.str "behind")) (.dat (.bool (decide (w = .behind)))) := dEq_e w Word.behind
theorem dEq_int (i j : Int) : dEq false (.dat (.int i)) (.dat (.int j)) (.dat (.bool (decide (i = j)))) := dEq_e i j
theorem dNe_int (i j : Int) : dEq true (.dat (.int i)) (.dat (.int j)) (.dat (.bool (!decide (i = j)))) := dNe_e i j
theorem dEq_bool (i j : Bool) : dEq false (.dat (.bool i)) (.dat (.bool j)) (.dat (.bool (decide (i = j)))) := dEq_e i j
end Wp
end
section
set_option Elab.async false
set_option linter.all false
set_option autoImplicit false
set_option maxRecDepth 100000
set_option maxHeartbeats 4000000
/-! WpG: more rules: what is filled, then fixed; ranges; sorted; tests -/
namespace Wp
open PySem L2 Wm

theorem cxK {CX : CXT} {P : Program} {w : World} {K : PySem.W.Frag} {mg : Str → Option Value} {base : Heap} {N : List Str} {qual : Str} {scope : Scope} {f : Addr} {cd : Value} {A : Around} {outer : List PySem.Env} {s : Shared} {H : Hp} {E : XK} : (cxOf CX P w K mg base N qual scope f cd A outer s H E).K = K := rfl
theorem u65 {k : Nat} {A : Around} (r : Room k A) : A.units + 65 < cLine := by have := r.un; omega
section
variable {K : PySem.W.Frag} {ps : List Addr} {G G' : Env} {M M1 M2 M3 : List Mu} {ta tb tc te : TE} {tt : TT} {t u u1 u2 : TS} {F : Oc → Prop}
theorem sv_retE {r0 r : RD} (h : EvG K ps te G M r0 M1) (e : r0 = r) (f : F (.rt r M1)) : SvP K ps (tRet te) G M F := sv_ret (ev_is h e) f
theorem sv_imp1 {F' : Oc → Prop} (h : SvP K ps t G M F') (hF : ∀ o, F' o → F o) : SvP K ps t G M F := h.imp hF
/-- a < b < c, as one truth -/
theorem ev_chain {R R' : RD → RD → RD → Prop} {a b c : RD} {p q : Bool} (ha : EvG K ps ta G M a M1) (hb : EvG K ps tb G M1 b M2) (h : R a b (.dat (.bool p))) (hc : EvG K ps tc G M2 c M2) (h' : R' b c (.dat (.bool q))) : EvG K ps (tChain (rD2 K R) (rD2 K R') ta tb tc) G M (.dat (.bool (p && q))) M2 := by
  cases p with
  | true => exact ev_chainT ha hb h hc h'
  | false => exact ev_chainF ha hb h
/-! ### what is filled, then fixed -/
def frzF (K : PySem.W.Frag) (ps : List Addr) (i : Nat) (p : Addr) (u : TS) (F : Oc → Prop) : Oc → Prop
  | .nx G2 M2 => ∃ M' ds, M2 = M' ++ [.lst ds] ∧ G2[i]? = some (some (.raw (.ref p))) ∧ SvP K ps u (G2.set i (some (.dat (.list ds)))) M' F
  | .rt (.dat d) M2 => ∃ M' m, M2 = M' ++ [m] ∧ F (.rt (.dat d) M')
  | _ => False
theorem sv_newLF {i : Nat} {ta : TA} {ds : List PyData} (h : EaG K ps ta G M (ds.map .dat) M1) (hl : ds.length ≤ big := by decide)
    (k : ∀ p, SvP K (ps ++ [p]) u1 (G.set i (some (.raw (.ref p)))) (M1 ++ [.lst ds]) (frzF K ps i p u2 F)) : SvP K ps (tSeq (tAsg (tLst ta) (gName i)) (tSeq u1 u2)) G M F := fun D σ H0 H s e m q =>
  h σ H0 H _ s e m fun vs H1 H1' g m1 d => ⟨by rw [d.dat.length]; exact big_le hl, fun p hp => by
    refine k p { D with nx := u2 D } _ H1 (upd H1' p (.lst vs)) (Gr.newM (W := Pure) g.sub hp).sub ((e.mono g.lo).set i rfl) (mok_snoc (H1 := H1) m1 g.sub hp ⟨vs, upd_same, d.dat⟩) fun o fo => ?_
    cases o with
    | nx G2 M2 =>
      obtain ⟨M', es, rfl, hi, hu⟩ := fo
      intro σ2 H2 H2' g2 e2 m2
      obtain ⟨⟨xs, a, b⟩, h0, hps⟩ := mok_last m2
      have s1 : Same H2 (upd H2 p (.lst xs)) := fun z o e => by rw [upd_ne (ne_of_none e h0)]; exact e
      have gb := gr_back hp g2
      have nD : ∀ a, H1' a ≠ none → a ≠ p := fun a n z => n (by rw [z]; exact hp)
      obtain ⟨v, hv, rv⟩ := e2.at' i _ hi
      have rv' : v = .ref p := rv
      subst rv'
      have e1 : EnvOk K (upd H2 p (.lst xs)) σ2 (G2.set i (some (.dat (.list es)))) := by
        have e2 := (e2.mono s1).set (v := .ref p) (r := .dat (.list es)) i (Dq.lst upd_same (DqAll.mono s1 _ _ b))
        have e3 : σ2.set i (some (.ref p)) = σ2 := by
          apply List.ext_getElem?
          intro k
          by_cases hk : i = k
          · subst hk
            rw [List.getElem?_set_self (List.getElem?_eq_some_iff.mp hv).1, hv]
          · rw [List.getElem?_set_ne hk]
        rw [e3] at e2
        exact e2
      have gg : Gr (Wn ps) H1 H1' (upd H2 p (.lst xs)) H2' := by
        refine ⟨gb.lo.trans s1, gb.hi, fun a e n => ?_, gb.th, fun z o e => ?_⟩
        · rw [upd_ne (nD a n)]; exact gb.fr a e n
        · by_cases hz : z = p
          · subst hz; rw [upd_same] at e; rw [a]; exact e
          · rw [upd_ne hz] at e; exact g2.sub z o e
      refine hu D σ2 _ H2' gg.sub e1 ?_ fun o fo => (q o fo).after (g.trans gg)
      have mh := mok_head m2
      refine ⟨mh.nd, mh.len, fun q hq => ⟨?_, (mh.out q hq).2⟩, fun j q y e1 e2 => (mh.at' j q y e1 e2).keep s1 fun _ h => h⟩
      have hne : q ≠ p := fun e => hps (e ▸ hq)
      rw [upd_ne hne]
      exact (mh.out q hq).1
    | rt r M2 =>
      cases r with
      | dat d =>
        obtain ⟨M', x, rfl, f⟩ := fo
        exact fun v H2 H2' g2 m2 r => (q _ f) v H2 H2' (g.trans (gr_back hp g2)) (mok_head m2) r
      | _ => exact fo.elim
    | bk _ _ => exact fo.elim
    | ct _ _ => exact fo.elim⟩
/-! ### list(range(n)), tuple(range(n)) -/
theorem rgV_dat {H : Hp} (n : Nat) : DqAll K H (rgV 0 (n : Int)) ((List.range n).map fun (i : Nat) => PyData.int (i : Int)) := by
  have e : rgV 0 (n : Int) = ((List.range n).map fun (i : Nat) => (i : Int)).map V.int := by
    unfold rgV
    rw [List.map_map]
    show List.map _ (List.range ((n : Int) - 0).toNat) = _
    rw [show ((n : Int) - 0).toNat = n by omega]
    apply List.map_congr_left
    intro i _
    show V.int (0 + (i : Int)) = V.int (i : Int)
    rw [Int.zero_add]
  have e2 : ((List.range n).map fun (i : Nat) => PyData.int (i : Int)) = ((List.range n).map fun (i : Nat) => (i : Int)).map PyData.int := by rw [List.map_map]; rfl
  rw [e, e2]
  exact DqAll.ofInts
theorem rg_ok {n : Nat} (h : n ≤ big) : RgOk 0 (n : Int) := RgOk.of_le (Int.le_refl _) (by unfold big at h; omega) (by decide) (by omega)
theorem ev_lstRg {n : Nat} (h : EvG K ps ta G M (.dat (.int (n : Int))) M1) (hn : n ≤ big) : EvG K ps (tLstRg (tRg1 ta)) G M (.dat (.list ((List.range n).map fun (i : Nat) => PyData.int (i : Int)))) M1 := fun σ H0 H Q s e m q =>
  h σ H0 H _ s e m fun v H1 H1' g1 m1 d1 => by
    cases d1
    refine ⟨_, rfl, rg_ok hn, (out_at m1 fun v H3 H3' g3 m3 d3 => q v H3 H3' (g1.trans g3) m3 d3).lst g1.sub (rgV_dat n)⟩
theorem ev_tupRg {n : Nat} (h : EvG K ps ta G M (.dat (.int (n : Int))) M1) (hn : n ≤ big) : EvG K ps (tTupRg (tRg1 ta)) G M (.dat (.tuple ((List.range n).map fun (i : Nat) => PyData.int (i : Int)))) M1 := fun σ H0 H Q s e m q =>
  h σ H0 H _ s e m fun v H1 H1' g1 m1 d1 => by
    cases d1
    refine ⟨_, rfl, rg_ok hn, (out_at m1 fun v H3 H3' g3 m3 d3 => q v H3 H3' (g1.trans g3) m3 d3).tup g1.sub (rgV_dat n)⟩
end
/-! ### sorted -/
def fSortedI : List RD → RD → Prop := fun rs d => ∃ (ns ms : List Int), rs = [.dat (.list (ns.map PyData.int))] ∧ ms.Pairwise (· ≤ ·) ∧ ms.Perm ns ∧ d = .dat (.list (ms.map PyData.int))
def fSorted (w : World) : List RD → RD → Prop := fun rs d => fSortedSet w rs d ∨ fSortedI rs d
theorem le_perm_one {l m : List Int} (hl : l.Pairwise (· ≤ ·)) (hm : m.Pairwise (· ≤ ·)) (h : l.Perm m) : l = m := h.eq_of_pairwise (fun a b _ _ h1 h2 => Int.le_antisymm h1 h2) hl hm
theorem cD_sorted {X : Cx} (hc : X.calm = true) : CallR X (.builtin "sorted") (rDs X.K (fSorted X.w)) := by
  intro pins s σ H xs us Q I r h
  obtain ⟨H0, rs, d, s0, ha, hf, q⟩ := h
  rcases hf with hf | ⟨ns, ms, rfl, hp, hm, rfl⟩
  · exact cD_sortedSet hc pins s σ H xs us Q I r ⟨H0, rs, d, s0, ha, hf, q⟩
  · obtain ⟨x, rfl, dx⟩ := rv1 ha
    cases dx with
    | lst a1 a2 =>
      have e := a2.ints
      subst e
      refine cr_sortedI pins s σ H _ us Q I r ⟨_, ns, rfl, SqL.of (s0 _ _ a1), fun ns' p h1 h2 h3 => ?_⟩
      have e2 : ns' = ms := le_perm_one h2 hp (h1.trans hm.symm)
      subst e2
      exact q.lst s0 DqAll.ofInts p h3
section
variable {K : PySem.W.Frag} {ps : List Addr} {G : Env} {M M1 M2 : List Mu} {te : TE} {tr : TA}
theorem ead_nil : EaG K ps tNil G M (([] : List PyData).map RD.dat) M := ea_nil
theorem ead_cons {d : PyData} {ds : List PyData} (h : EvG K ps te G M (.dat d) M1) (hr : EaG K ps tr G M1 (ds.map RD.dat) M2) : EaG K ps (tCons te tr) G M ((d :: ds).map RD.dat) M2 := ea_cons h hr
end
end Wp
end
section
set_option Elab.async false
set_option linter.all false
set_option autoImplicit false
set_option maxRecDepth 100000
set_option maxHeartbeats 4000000
/-! WpH: comprehensions of two clauses, words for lists of one kind -/
namespace Wp
open PySem L2 Wm
section
variable {K : PySem.W.Frag} {ps : List Addr} {G G' : Env} {M M1 M2 : List Mu} {vs vs1 : List Nat} {wi wi1 : TI} {g g1 : TG} {tt : TT} {te : TE}
def LcV (K : PySem.W.Frag) (ps : List Addr) (D : Addr) (Hs0 Hs : Hp) (M : List Mu) (ds : List PyData) (H' : Hp) : Prop :=
  ∃ H0' acc, Gr (fun a => a ∈ ps ∨ a = D) Hs0 Hs H0' H' ∧ H0' D = none ∧ H' D = some (.lst acc) ∧ DqAll K H0' acc ds ∧ MOk K ps M H0' H'
theorem ev_lc2M {α β : Type} (xs : List α) (enc : α → RD) (ys : α → List β) (enc1 : α → β → RD) (f : α → β → PyData) (hi : IvG K ps wi G M (xs.map enc) M1)
    (hs : ∀ (x : α), x ∈ xs → ∃ G', TgW K vs g (enc x) (wipeE G vs) G' ∧ IvG K ps wi1 G' M1 ((ys x).map (enc1 x)) M1 ∧ ∀ (y : β), y ∈ ys x → ∃ G'', TgW K vs1 g1 (enc1 x y) (wipeE G' vs1) G'' ∧ EvG K ps te G'' M1 (.dat (f x y)) M1)
    (hn : (xs.flatMap fun x => (ys x).map (f x)).length ≤ 1000000) : EvG K ps (tLc2 wi g tYes wi1 g1 tYes te vs vs1) G M (.dat (.list (xs.flatMap fun x => (ys x).map (f x)))) M1 := fun σ H0 H Q s e m q =>
  hi σ H0 H _ s e m fun J H1 H1' gr m1 y D hD => by
    have hDp := fresh_ps m1 hD
    have e1 : EnvOk K H1 σ G := e.mono gr.lo
    have el : (xs.map enc).length = xs.length := List.length_map ..
    refine ⟨fun i mm H' => mm = xs.length - i ∧ i ≤ xs.length ∧ LcW K ps D H1 H1' G σ M1 ((xs.take i).flatMap fun x => (ys x).map (f x)) H', ⟨xs.length, rfl, Nat.zero_le _, lcw_start gr.sub e1 m1 hD⟩, ?_⟩
    rintro i mm H' ⟨rfl, hle, w⟩
    obtain ⟨H0', acc, g2, h0, hd, ha, e2, m2⟩ := id w
    obtain ⟨y1, y2⟩ := y H0' H' g2.lo g2.sub
    by_cases hlt : i < xs.length
    · have hx : xs[i]? = some xs[i] := List.getElem?_eq_getElem hlt
      have hr : (xs.map enc)[i]? = some (enc xs[i]) := by rw [List.getElem?_map, hx]; rfl
      obtain ⟨go, yld⟩ := y1 i _ hr
      obtain ⟨G', ht, hi1, hin⟩ := hs xs[i] (List.getElem_mem hlt)
      have hcut : ∀ j, (((xs.take i).flatMap fun x => (ys x).map (f x)) ++ ((ys xs[i]).take j).map (f xs[i])).length ≤ 1000000 := fun j => by
        refine Nat.le_trans ?_ hn
        have e3 : xs = xs.take i ++ xs[i] :: xs.drop (i + 1) := by rw [← List.drop_eq_getElem_cons hlt, List.take_append_drop]
        have e4 : (xs.flatMap fun x => (ys x).map (f x)) = ((xs.take i).flatMap fun x => (ys x).map (f x)) ++ ((ys xs[i]).map (f xs[i]) ++ ((xs.drop (i + 1)).flatMap fun x => (ys x).map (f x))) := by
          conv => lhs; rw [e3]
          rw [List.flatMap_append, List.flatMap_cons]
        rw [e4, List.length_append, List.length_append, List.length_append, List.length_map, List.length_map, List.length_take]
        omega
      have hnext : ((xs.take (i + 1)).flatMap fun x => (ys x).map (f x)) = ((xs.take i).flatMap fun x => (ys x).map (f x)) ++ (ys xs[i]).map (f xs[i]) := by
        rw [List.take_add_one, hx, List.flatMap_append]
        show _ ++ ([xs[i]].flatMap _) = _
        rw [List.flatMap_cons, List.flatMap_nil, List.append_nil]
      refine .inr ⟨go, LcW K ps D H1 H1' G σ M1 ((xs.take (i + 1)).flatMap fun x => (ys x).map (f x)), fun H3 w3 => ⟨xs.length - (i + 1), by omega, rfl, hlt, w3⟩, fun x H3 hy => ?_⟩
      obtain ⟨H03, g3, rx⟩ := yld x H3 hy
      obtain ⟨g4, h04, hd4, ha4, e4, m4⟩ := lcw_step hDp g2 h0 hd ha g3.pure e2 (m2.keep g3 fun _ _ z => z)
      refine ht x (L2.wipe σ vs) H03 H3 _ g3.sub (e4.wipe vs) rx fun σ5 e5 w5 => ⟨by rw [w5, wipe_wipe fun _ z => z], ?_⟩
      refine iteT (B := LcW K ps D H1 H1' G σ M1 ((xs.take (i + 1)).flatMap fun x => (ys x).map (f x)) H3) ?_
      refine hi1 σ5 H03 H3 _ g3.sub e5 m4 fun J1 H6 H6' g6 m6 y6 => ?_
      obtain ⟨g7, h07, hd7, ha7, e7, m7⟩ := lcw_step hDp g4 h04 hd4 ha4 g6 e4 m6
      have e56 : EnvOk K H6 σ5 G' := e5.mono g6.lo
      have el1 : ((ys xs[i]).map (enc1 xs[i])).length = (ys xs[i]).length := List.length_map ..
      refine ⟨fun j kk H' => kk = (ys xs[i]).length - j ∧ j ≤ (ys xs[i]).length ∧ LcV K ps D H6 H6' M1 (((xs.take i).flatMap fun x => (ys x).map (f x)) ++ ((ys xs[i]).take j).map (f xs[i])) H', ⟨_, rfl, Nat.zero_le _, H6, acc, Gr.refl g6.sub, h07, hd7, ?_, m7⟩, ?_⟩
      · rw [List.take_zero, List.map_nil, List.append_nil]
        exact ha7
      rintro j kk H8 ⟨rfl, hlj, H08, acc8, g8, h08, hd8, ha8, m8⟩
      obtain ⟨z1, z2⟩ := y6 H08 H8 g8.lo g8.sub
      by_cases hjt : j < (ys xs[i]).length
      · have hyj : (ys xs[i])[j]? = some (ys xs[i])[j] := List.getElem?_eq_getElem hjt
        have hrj : ((ys xs[i]).map (enc1 xs[i]))[j]? = some (enc1 xs[i] (ys xs[i])[j]) := by rw [List.getElem?_map, hyj]; rfl
        obtain ⟨go1, yld1⟩ := z1 j _ hrj
        obtain ⟨G'', ht1, hv⟩ := hin (ys xs[i])[j] (List.getElem_mem hjt)
        refine .inr ⟨go1, LcV K ps D H6 H6' M1 (((xs.take i).flatMap fun x => (ys x).map (f x)) ++ ((ys xs[i]).take (j + 1)).map (f xs[i])), fun H9 w9 => ⟨(ys xs[i]).length - (j + 1), by omega, rfl, hjt, w9⟩, fun u H9 hu => ?_⟩
        obtain ⟨H09, g9, r9⟩ := yld1 u H9 hu
        have g89 : Gr (fun a => a ∈ ps ∨ a = D) H6 H6' H09 H9 := g8.trans g9.pure
        refine ht1 u (L2.wipe σ5 vs1) H09 H9 _ g9.sub ((e56.mono g89.lo).wipe vs1) r9 fun σ7 e7' w7 => ⟨by rw [w7, wipe_wipe fun _ z => z], ?_⟩
        refine iteT (B := LcV K ps D H6 H6' M1 (((xs.take i).flatMap fun x => (ys x).map (f x)) ++ ((ys xs[i]).take (j + 1)).map (f xs[i])) H9) ?_
        refine hv σ7 H09 H9 _ g9.sub e7' (m8.keep g9 fun _ _ z => z) fun v H10 H10' g10 m10 dv => ?_
        have g11 := g89.trans (g10.mono fun _ z => .inl z)
        have h10 : H10 D = none := g10.fr D (g9.fr D h08 (by rw [hd8]; exact fun z => nomatch z)) (by rw [g9.hi D _ (fun z => z) hd8]; exact fun z => nomatch z)
        have hd10 : H10' D = some (.lst acc8) := g10.hi D _ hDp (g9.hi D _ (fun z => z) hd8)
        have ha10 := DqAll.mono (g9.lo.trans g10.lo) _ _ ha8
        refine ⟨acc8, hd10, ?_, H10, acc8 ++ [v], g11.trans (Gr.put g11.sub (.inr rfl) h10), h10, upd_same, ?_, put_keep m10 hDp⟩
        · have l1 := ha8.length
          have l2 := hcut j
          rw [sizeLine_eq]
          omega
        · rw [List.take_add_one, hyj, List.map_append, ← List.append_assoc]
          exact ha10.append (.cons dv .nil)
      · have ej : j = (ys xs[i]).length := by omega
        subst ej
        refine .inl ⟨el1 ▸ z2, H08, acc8, g7.trans g8, h08, hd8, ?_, e7.mono g8.lo, m8⟩
        rw [List.take_length] at ha8
        rw [hnext]
        exact ha8
    · have ei : i = xs.length := by omega
      subst ei
      rw [List.take_length] at w
      obtain ⟨H0e, ge, me, de⟩ := lcw_end gr.sub hD hDp w
      exact .inl ⟨el ▸ y2, q _ H0e H' (gr.trans ge) me de⟩
theorem iv_is {rs rs' : List RD} (h : IvG K ps wi G M rs M1) (e : rs = rs') : IvG K ps wi G M rs' M1 := e ▸ h
end
/-! ### words -/
theorem r_all {α : Type} (xs : List α) (p : α → Bool) : fAll [.dat (.list (xs.map fun x => .bool (p x)))] (.dat (.bool (xs.all p))) := ⟨xs.map p, by rw [List.map_map]; rfl, by rw [List.all_map]; rfl⟩
theorem r_sum {α : Type} (xs : List α) (p : α → Int) : fSum [.dat (.list (xs.map fun x => .int (p x)))] (.dat (.int (xs.map p).sum)) := ⟨xs.map p, by rw [List.map_map]; rfl, rfl⟩
theorem cut_from {α : Type} (xs : List α) (n : Nat) : cutD xs (some (n : Int)) none = xs.drop n := by
  unfold cutD
  rw [HT.sIx_nat, HT.sIx_none]
  by_cases h : n ≤ xs.length
  · rw [show min n xs.length = n by omega, List.take_of_length_le (by rw [List.length_drop]; omega)]
  · rw [show min n xs.length = xs.length by omega, List.drop_of_length_le (i := n) (by omega), List.drop_of_length_le (Nat.le_refl _), List.take_nil]
theorem cut_upto {α : Type} (xs : List α) (n : Nat) : cutD xs none (some (n : Int)) = xs.take n := by
  unfold cutD
  rw [HT.sIx_nat, HT.sIx_none, List.drop_zero, Nat.sub_zero]
  by_cases h : n ≤ xs.length
  · rw [show min n xs.length = n by omega]
  · rw [show min n xs.length = xs.length by omega, List.take_length, List.take_of_length_le (by omega)]
end Wp
end
section
set_option Elab.async false
set_option linter.all false
set_option autoImplicit false
set_option maxRecDepth 100000
set_option maxHeartbeats 4000000
/-! WpP: the rules where nothing owned changes; the operations by the frag's own name -/
namespace Wp
open PySem L2 Wm
section
variable {K : PySem.W.Frag} {ps : List Addr} {G G' : Env} {M : List Mu} {ta tb tc te : TE} {tt tu : TT} {t u : TS} {tr : TA} {F : Oc → Prop}
theorem x_op {R : RD → RD → RD → Prop} {a b d : RD} (ha : EvG K ps ta G M a M) (hb : EvG K ps tb G M b M) (h : R a b d) : EvG K ps (tOp (rD2 K R) ta tb) G M d M := ev_op ha hb h
theorem x_un {R : RD → RD → Prop} {a d : RD} (ha : EvG K ps ta G M a M) (h : R a d) : EvG K ps (tUn (rD1 K R) ta) G M d M := ev_un ha h
theorem xa_nil : EaG K ps tNil G M [] M := ea_nil
theorem xa_cons {r : RD} {rs : List RD} (h : EvG K ps ta G M r M) (hr : EaG K ps tr G M rs M) : EaG K ps (tCons ta tr) G M (r :: rs) M := ea_cons h hr
theorem xd_nil : EaG K ps tNil G M (([] : List PyData).map RD.dat) M := ea_nil
theorem xd_cons {d : PyData} {ds : List PyData} (h : EvG K ps te G M (.dat d) M) (hr : EaG K ps tr G M (ds.map RD.dat) M) : EaG K ps (tCons te tr) G M ((d :: ds).map RD.dat) M := ea_cons h hr
theorem x_cb {R : List RD → RD → Prop} {t : TA} {ds : List RD} {d : RD} (ha : EaG K ps t G M ds M) (h : R ds d) : EvG K ps (tCB (rDs K R) t) G M d M := ev_cb ha h
theorem x_call {R : List RD → RD → Prop} {t : TA} {E : XK} {ds : List RD} {d : RD} (ha : EaG K ps t G M ds M) (h : R ds d) : EvG K ps (tCall (spD K R) [] E t) G M d M := ev_call ha h
theorem x_tup {t : TA} {ds : List PyData} (ha : EaG K ps t G M (ds.map .dat) M) (hl : ds.length ≤ 1000) : EvG K ps (tTup t) G M (.dat (.tuple ds)) M := ev_tup ha hl
theorem x_lst {t : TA} {ds : List PyData} (ha : EaG K ps t G M (ds.map .dat) M) (hl : ds.length ≤ 1000) : EvG K ps (tLst t) G M (.dat (.list ds)) M := ev_lst ha hl
theorem xt_test {b : Bool} (h : EvG K ps te G M (.dat (.bool b)) M) : EtG K ps (tTest te) G M b M := et_test h
theorem xt_B {b : Bool} (h : EvG K ps te G M (.dat (.bool b)) M) : EtG K ps (tB te) G M b M := et_B h
theorem xt_not {b : Bool} (h : EtG K ps tt G M b M) : EtG K ps (tNot tt) G M (!b) M := et_not h
theorem xt_and {a b : Bool} (h1 : EtG K ps tt G M a M) (h2 : a = true → EtG K ps tu G M b M) : EtG K ps (tAnd tt tu) G M (a && b) M := et_and h1 h2
theorem xt_or {a b : Bool} (h1 : EtG K ps tt G M a M) (h2 : a = false → EtG K ps tu G M b M) : EtG K ps (tOr tt tu) G M (a || b) M := et_or h1 h2
theorem x_and {a b : Bool} (h1 : EvG K ps ta G M (.dat (.bool a)) M) (h2 : a = true → EvG K ps tb G M (.dat (.bool b)) M) : EvG K ps (tAndV ta tb) G M (.dat (.bool (a && b))) M := ev_and h1 h2
theorem x_or {a b : Bool} (h1 : EvG K ps ta G M (.dat (.bool a)) M) (h2 : a = false → EvG K ps tb G M (.dat (.bool b)) M) : EvG K ps (tOrV ta tb) G M (.dat (.bool (a || b))) M := ev_or h1 h2
theorem x_not {b : Bool} (h1 : EvG K ps ta G M (.dat (.bool b)) M) : EvG K ps (tNotV ta) G M (.dat (.bool (!b))) M := ev_not h1
theorem x_if {b : Bool} {x y : PyData} (h : EtG K ps tt G M b M) (h1 : b = true → EvG K ps ta G M (.dat x) M) (h2 : b = false → EvG K ps tb G M (.dat y) M) : EvG K ps (tIf tt ta tb) G M (.dat (if b = true then x else y)) M := ev_if h h1 h2
theorem x_ifT {r : RD} (h : EtG K ps tt G M true M) (h1 : EvG K ps ta G M r M) : EvG K ps (tIf tt ta tb) G M r M := ev_ifT h h1
theorem x_ifF {r : RD} (h : EtG K ps tt G M false M) (h1 : EvG K ps tb G M r M) : EvG K ps (tIf tt ta tb) G M r M := ev_ifF h h1
theorem x_chain {R R' : RD → RD → RD → Prop} {a b c : RD} {p q : Bool} (ha : EvG K ps ta G M a M) (hb : EvG K ps tb G M b M) (h : R a b (.dat (.bool p))) (hc : EvG K ps tc G M c M) (h' : R' b c (.dat (.bool q))) : EvG K ps (tChain (rD2 K R) (rD2 K R') ta tb tc) G M (.dat (.bool (p && q))) M := ev_chain ha hb h hc h'
theorem xo_some {i : Int} (h : EvG K ps te G M (.dat (.int i)) M) : EoG K ps (tPart te) G M (some i) M := eo_some h
theorem x_sl {R : RD → Option Int → Option Int → RD → Prop} {tl th : TO} {a d : RD} {l u : Option Int} (ha : EvG K ps ta G M a M) (hl : EoG K ps tl G M l M) (hu : EoG K ps th G M u M) (h : R a l u d) : EvG K ps (tSl (rDS K R) ta tl th) G M d M := ev_sl ha hl hu h
theorem x_lstRg {n : Nat} (h : EvG K ps ta G M (.dat (.int (n : Int))) M) (hn : n ≤ big) : EvG K ps (tLstRg (tRg1 ta)) G M (.dat (.list ((List.range n).map eN))) M := ev_lstRg h hn
theorem x_tupRg {n : Nat} (h : EvG K ps ta G M (.dat (.int (n : Int))) M) (hn : n ≤ big) : EvG K ps (tTupRg (tRg1 ta)) G M (.dat (.tuple ((List.range n).map eN))) M := ev_tupRg h hn
/-! statements -/
theorem y_ret {r : RD} (h : EvG K ps te G M r M) (f : F (.rt r M)) : SvP K ps (tRet te) G M F := sv_ret h f
theorem y_retE {r0 r : RD} (h : EvG K ps te G M r0 M) (e : r0 = r) (f : F (.rt r M)) : SvP K ps (tRet te) G M F := sv_retE h e f
theorem y_set {i : Nat} {r : RD} (h : EvG K ps te G M r M) (f : F (.nx (G.set i (some r)) M)) : SvP K ps (tAsg te (gName i)) G M F := sv_set h f
theorem y_set1 {i : Nat} {r : RD} (h : EvG K ps te G M r M) (f : SvP K ps u (G.set i (some r)) M F) : SvP K ps (tSeq (tAsg te (gName i)) u) G M F := sv_set1 h f
theorem y_setE1 {i : Nat} {r0 r : RD} (h : EvG K ps te G M r0 M) (e : r0 = r) (f : SvP K ps u (G.set i (some r)) M F) : SvP K ps (tSeq (tAsg te (gName i)) u) G M F := sv_set1 (ev_is h e) f
theorem y_asg {g : TG} {r : RD} (h : EvG K ps te G M r M) (ht : TgG K g r G G') (f : F (.nx G' M)) : SvP K ps (tAsg te g) G M F := sv_asg h ht f
theorem y_asg1 {g : TG} {r : RD} (h : EvG K ps te G M r M) (ht : TgG K g r G G') (f : SvP K ps u G' M F) : SvP K ps (tSeq (tAsg te g) u) G M F := sv_asg1 h ht f
theorem y_par1 {i j : Nat} {ta : TA} {r r' : RD} (h : EaG K ps ta G M [r, r'] M) (f : SvP K ps u ((G.set i (some r)).set j (some r')) M F) : SvP K ps (tSeq (tPar i j ta) u) G M F := sv_par1 h f
theorem y_drop1 {r : RD} (h : EvG K ps te G M r M) (f : SvP K ps u G M F) : SvP K ps (tSeq (tDrop te) u) G M F := sv_drop1 h f
theorem y_ifF1 {t2 : TS} (h : EtG K ps tt G M false M) (f : SvP K ps u G M F) : SvP K ps (tSeq (tIfS tt t tNext) u) G M F := sv_seq (sv_ifF h (sv_nil f))
theorem y_ifF1' (h : EtG K ps tt G M false M) (f : SvP K ps u G M F) : SvP K ps (tSeq (tIfS tt t tNext) u) G M F := sv_seq (sv_ifF h (sv_nil f))
/-- a guard that is not so -/
theorem y_skip {b : Bool} (h : EtG K ps tt G M b M) (e : b = false) (f : SvP K ps u G M F) : SvP K ps (tSeq (tIfS tt t tNext) u) G M F := by subst e; exact sv_seq (sv_ifF h (sv_nil f))
theorem y_skipE {b : Bool} (h : EtG K ps tt G M b M) (e : b = false) (f : F (.nx G M)) : SvP K ps (tIfS tt t tNext) G M F := by subst e; exact sv_ifF h (sv_nil f)
/-- a guard that is so: the def ends there -/
theorem y_take {b : Bool} (h : EtG K ps tt G M b M) (e : b = true) (f : SvP K ps t G M (thenF K ps u F)) : SvP K ps (tSeq (tIfS tt t tNext) u) G M F := by subst e; exact sv_seq (sv_ifT h f)
theorem y_guard {b : Bool} (h : EtG K ps tt G M b M) (f1 : b = true → SvP K ps t G M (thenF K ps u F)) (f2 : b = false → SvP K ps u G M F) : SvP K ps (tSeq (tIfS tt t tNext) u) G M F := sv_seq (sv_if h f1 fun e => sv_nil (f2 e))
theorem y_if {b : Bool} (h : EtG K ps tt G M b M) (f1 : b = true → SvP K ps t G M F) (f2 : b = false → SvP K ps u G M F) : SvP K ps (tIfS tt t u) G M F := sv_if h f1 f2
theorem xi_rng {ta : TA} {n : Nat} (h : EaG K ps ta G M [.dat (.int (n : Int))] M) (hn : n ≤ 1000000000) : IvG K ps (iRng1 ta) G M (rngD n) M := iv_rng1 h hn
theorem xi_list {tl : TE} {ds : List PyData} (h : EvG K ps tl G M (.dat (.list ds)) M) : IvG K ps (iSeq K tl) G M (ds.map .dat) M := iv_seqL h
theorem xi_tup {tl : TE} {ds : List PyData} (h : EvG K ps tl G M (.dat (.tuple ds)) M) : IvG K ps (iSeq K tl) G M (ds.map .dat) M := iv_seqT h
theorem xi_rngN {ta : TA} {n : Nat} (h : EaG K ps ta G M [.dat (.int (n : Int))] M) (hn : n ≤ 1000000000) : IvG K ps (iRng1 ta) G M ((List.range n).map fun i => RD.dat (eN i)) M := iv_rng1 h hn
/-- of a list (a tuple) of things of one kind -/
theorem xi_listE {α : Type} {f : α → PyData} {tl : TE} {xs : List α} (h : EvG K ps tl G M (.dat (.list (xs.map f))) M) : IvG K ps (iSeq K tl) G M (xs.map fun x => RD.dat (f x)) M := iv_is (iv_seqL h) (by rw [List.map_map]; rfl)
theorem xi_tupE {α : Type} {f : α → PyData} {tl : TE} {xs : List α} (h : EvG K ps tl G M (.dat (.tuple (xs.map f))) M) : IvG K ps (iSeq K tl) G M (xs.map fun x => RD.dat (f x)) M := iv_is (iv_seqT h) (by rw [List.map_map]; rfl)
theorem zip_kinds {α β : Type} {f : α → PyData} {g : β → PyData} (xs : List α) (ys : List β) : zipD (xs.map f) (ys.map g) = (xs.zip ys).map fun p => RD.dat (.tuple [f p.1, g p.2]) := by
  unfold zipD
  rw [List.zip_map, List.map_map]
  rfl
theorem xi_zipT {α β : Type} {f : α → PyData} {g : β → PyData} {ta : TA} {xs : List α} {ys : List β} (h : EaG K ps ta G M [.dat (.tuple (xs.map f)), .dat (.tuple (ys.map g))] M) : IvG K ps (RZ.iZipA K ta) G M ((xs.zip ys).map fun p => RD.dat (.tuple [f p.1, g p.2])) M := iv_is (iv_zipT h) (zip_kinds xs ys)
theorem xi_zipL {α β : Type} {f : α → PyData} {g : β → PyData} {ta : TA} {xs : List α} {ys : List β} (h : EaG K ps ta G M [.dat (.list (xs.map f)), .dat (.list (ys.map g))] M) : IvG K ps (RZ.iZipA K ta) G M ((xs.zip ys).map fun p => RD.dat (.tuple [f p.1, g p.2])) M := iv_is (iv_zipL h) (zip_kinds xs ys)
theorem enum_kind {α : Type} {f : α → PyData} (xs : List α) : enumD (xs.map f) = xs.zipIdx.map fun p => RD.dat (.tuple [eN p.2, f p.1]) := by
  apply List.ext_getElem?
  intro i
  rw [List.getElem?_mapIdx, List.getElem?_map, List.getElem?_map, List.getElem?_zipIdx]
  cases xs[i]? with
  | none => rfl
  | some x =>
    show some (RD.dat (.tuple [.int (i : Int), f x])) = some (RD.dat (.tuple [.int ((0 + i : Nat) : Int), f x]))
    rw [Nat.zero_add]
theorem xi_enumT {α : Type} {f : α → PyData} {ta : TA} {xs : List α} (h : EaG K ps ta G M [.dat (.tuple (xs.map f))] M) : IvG K ps (iEnumD K ta) G M (xs.zipIdx.map fun p => RD.dat (.tuple [eN p.2, f p.1])) M := iv_is (iv_enumT h) (enum_kind xs)
theorem xi_enumL {α : Type} {f : α → PyData} {ta : TA} {xs : List α} (h : EaG K ps ta G M [.dat (.list (xs.map f))] M) : IvG K ps (iEnumD K ta) G M (xs.zipIdx.map fun p => RD.dat (.tuple [eN p.2, f p.1])) M := iv_is (iv_enumL h) (enum_kind xs)
end
section
variable {K : PySem.W.Frag} {ps : List Addr} {G : Env} {M : List Mu} {te : TE} {tt : TT} {vs vs1 : List Nat} {wi wi1 : TI} {g g1 : TG}
theorem x_lcM {α : Type} (xs : List α) (enc : α → RD) (f : α → PyData) {G' : α → Env} (hi : IvG K ps wi G M (xs.map enc) M)
    (ht : ∀ (x : α), x ∈ xs → TgW K vs g (enc x) (wipeE G vs) (G' x)) (he : ∀ (x : α), x ∈ xs → EvG K ps te (G' x) M (.dat (f x)) M)
    (hn : xs.length ≤ 1000000) : EvG K ps (tLc wi g tYes te vs) G M (.dat (.list (xs.map f))) M := ev_lcM xs enc f hi (fun x hx => ⟨_, ht x hx, he x hx⟩) hn
theorem x_lcP {α : Type} (xs : List α) (enc : α → RD) (p : α → Bool) (f : α → PyData) {G' : α → Env} (hi : IvG K ps wi G M (xs.map enc) M)
    (ht : ∀ (x : α), x ∈ xs → TgW K vs g (enc x) (wipeE G vs) (G' x)) (hp : ∀ (x : α), x ∈ xs → EtG K ps tt (G' x) M (p x) M) (he : ∀ (x : α), x ∈ xs → p x = true → EvG K ps te (G' x) M (.dat (f x)) M)
    (hn : xs.length ≤ 1000000) : EvG K ps (tLc wi g tt te vs) G M (.dat (.list ((xs.filter p).map f))) M := ev_lcP xs enc p f hi (fun x hx => ⟨_, ht x hx, hp x hx, he x hx⟩) hn
theorem x_lc2M {α β : Type} (xs : List α) (enc : α → RD) (ys : α → List β) (enc1 : α → β → RD) (f : α → β → PyData) {G' : α → Env} {G'' : α → β → Env} (hi : IvG K ps wi G M (xs.map enc) M)
    (ht : ∀ (x : α), x ∈ xs → TgW K vs g (enc x) (wipeE G vs) (G' x)) (hi1 : ∀ (x : α), x ∈ xs → IvG K ps wi1 (G' x) M ((ys x).map (enc1 x)) M)
    (ht1 : ∀ (x : α), x ∈ xs → ∀ (y : β), y ∈ ys x → TgW K vs1 g1 (enc1 x y) (wipeE (G' x) vs1) (G'' x y)) (he : ∀ (x : α), x ∈ xs → ∀ (y : β), y ∈ ys x → EvG K ps te (G'' x y) M (.dat (f x y)) M)
    (hn : (xs.flatMap fun x => (ys x).map (f x)).length ≤ 1000000) : EvG K ps (tLc2 wi g tYes wi1 g1 tYes te vs vs1) G M (.dat (.list (xs.flatMap fun x => (ys x).map (f x)))) M :=
  ev_lc2M xs enc ys enc1 f hi (fun x hx => ⟨_, ht x hx, hi1 x hx, fun y hy => ⟨_, ht1 x hx y hy, he x hx y hy⟩⟩) hn
end
section
variable {K : PySem.W.Frag} {ps : List Addr} {G : Env} {M : List Mu} {te : TE} {tc : TT} {wi : TI} {g : TG} {tb u : TS} {F : Oc → Prop}
def SvT (K : PySem.W.Frag) (ps : List Addr) (g : TG) (r : RD) (tb : TS) (G : Env) (M : List Mu) (F : Oc → Prop) : Prop := ∃ G2, TgG K g r G G2 ∧ SvP K ps tb G2 M F
theorem svt {r : RD} {G2 : Env} (ht : TgG K g r G G2) (hb : SvP K ps tb G2 M F) : SvT K ps g r tb G M F := ⟨G2, ht, hb⟩
theorem y_for {α : Type} {xs : List α} {enc : α → RD} {M1 : List Mu} (Pv : Nat → Env → List Mu → Prop) (hi : IvG K ps wi G M (xs.map enc) M1) (h0 : Pv 0 G M1)
    (hs : ∀ (i : Nat) (x : α), xs[i]? = some x → ∀ (G' : Env) (M' : List Mu), Pv i G' M' → SvT K ps g (enc x) tb G' M' (turnF F (Pv (i + 1))))
    (hd : ∀ (G' : Env) (M' : List Mu), Pv xs.length G' M' → F (.nx G' M')) : SvP K ps (tFor wi g tb) G M F :=
  sv_for hi Pv h0 (fun i G' M' r hr hp => by
    rw [List.getElem?_map] at hr
    cases hx : xs[i]? with
    | none => rw [hx] at hr; cases hr
    | some x =>
      rw [hx] at hr
      have e := Option.some.inj hr
      subst e
      exact hs i x hx G' M' hp) (fun G' M' hp => hd G' M' (by rw [List.length_map] at hp; exact hp))
theorem y_for1 {α : Type} {xs : List α} {enc : α → RD} {M1 : List Mu} (Pv : Nat → Env → List Mu → Prop) (hi : IvG K ps wi G M (xs.map enc) M1) (h0 : Pv 0 G M1)
    (hs : ∀ (i : Nat) (x : α), xs[i]? = some x → ∀ (G' : Env) (M' : List Mu), Pv i G' M' → SvT K ps g (enc x) tb G' M' (turnF (thenF K ps u F) (Pv (i + 1))))
    (hd : ∀ (G' : Env) (M' : List Mu), Pv xs.length G' M' → SvP K ps u G' M' F) : SvP K ps (tSeq (tFor wi g tb) u) G M F := sv_seq (y_for Pv hi h0 hs hd)
end
section
variable {K : PySem.W.Frag} {ps : List Addr} {G : Env} {M : List Mu} {te to : TE} {F : Oc → Prop}
theorem y_app {j : Nat} {p : Addr} {ds : List PyData} {d : PyData} (ho : EvG K ps to G M (.raw (.ref p)) M) (h : EvG K ps te G M (.dat d) M) (hp : ps[j]? = some p) (hM : M[j]? = some (.lst ds)) (hl : ds.length ≤ big)
    (f : F (.nx G (M.set j (.lst (ds ++ [d]))))) : SvP K ps (tDrop (tBM K "list" rAppend to (tCons te tNil))) G M F := sv_app ho h hp hM hM hl f
theorem y_ext {j : Nat} {p : Addr} {ds es : List PyData} (ho : EvG K ps to G M (.raw (.ref p)) M) (h : EvG K ps te G M (.dat (.list es)) M) (hp : ps[j]? = some p) (hM : M[j]? = some (.lst ds)) (hl : ds.length + es.length ≤ big)
    (f : F (.nx G (M.set j (.lst (ds ++ es))))) : SvP K ps (tDrop (tBM K "list" rExtend to (tCons te tNil))) G M F := sv_ext ho h hp hM hM hl f
end
/-! ### the operations by K -/
section
variable {X : Cx} {K : PySem.W.Frag}
theorem oK {f : Value → Value → Sem Value} {R : RD → RD → RD → Prop} (h : OpR X f (rD2 X.K R)) (e : X.K = K := by rfl) : OpR X f (rD2 K R) := e ▸ h
theorem uK {f : Value → Sem Value} {R : RD → RD → Prop} (h : UnR X f (rD1 X.K R)) (e : X.K = K := by rfl) : UnR X f (rD1 K R) := e ▸ h
theorem xK {R : RD → RD → RD → Prop} (h : IxR X (rD2 X.K R)) (e : X.K = K := by rfl) : IxR X (rD2 K R) := e ▸ h
theorem lK {R : RD → Option Int → Option Int → RD → Prop} (h : SlR X (rDS X.K R)) (e : X.K = K := by rfl) : SlR X (rDS K R) := e ▸ h
theorem cK {f : Value} {R R' : List RD → RD → Prop} (h : CallR X f (rDs X.K R)) (e : X.K = K := by rfl) (e2 : R = R' := by rfl) : CallR X f (rDs K R') := e2 ▸ e ▸ h
theorem kSeq {tg l : Expr} {tl : TE} (hl : PE X l tl) (e : X.K = K := by rfl) : PI X tg l (iSeq K tl) := e ▸ pi_seq hl
theorem kTup {es : List Expr} {k : Nat} {t : TGs} {pos : Pos} (n : Nat) (hc : X.calm = true) (h : PGs X es t)
    (hn : (assignEach es X.env).length = n := by rfl) (hst : (assignEach es X.env).findIdx? (·.1) = none := by rfl) (ek : X.K = K := by rfl) : PG X (.Tuple es k pos) (gTup K n t) := ek ▸ pg_tup hc h hn hst
theorem kZip {e e2 : Expr} {ta : TA} {p pos tpos : Pos} {elts : List Expr} {kk : Nat} (hg : Gl X "zip") (hm : X.mg "zip" = none) (ha : PA X [e, e2] ta)
    (hs : starEach [e, e2] X.env = (false, eval e X.env) :: starEach [e2] X.env := by rfl) (hpl : (backTo pos (starEach [e2] X.env)).any (·.1) = false := by rfl) (ek : X.K = K := by rfl) :
    PI X (.Tuple elts kk tpos) (.Call (.Name "zip" p) [e, e2] [] pos) (RZ.iZipA K ta) := ek ▸ RZ.pi_zipA hg hm ha hs hpl
theorem kEnum {e : Expr} {ta : TA} {p pos tpos : Pos} {elts : List Expr} {kk : Nat} (hg : Gl X "enumerate") (hm : X.mg "enumerate" = none) (ha : PA X [e] ta) (hs : starEach [e] X.env = [(false, eval e X.env)] := by rfl) (ek : X.K = K := by rfl) :
    PI X (.Tuple elts kk tpos) (.Call (.Name "enumerate" p) [e] [] pos) (iEnumD K ta) := ek ▸ pi_enumD hg hm ha hs
end
theorem r_len {P : Program} {w : World} {α : Type} {f : α → PyData} (xs : List α) : fLenA P w [.dat (.list (xs.map f))] (.dat (.int (xs.length : Nat))) := .inl (by show RD.dat _ = RD.dat _; rw [List.length_map])
theorem r_lenT {P : Program} {w : World} {α : Type} {f : α → PyData} (xs : List α) : fLenA P w [.dat (.tuple (xs.map f))] (.dat (.int (xs.length : Nat))) := .inl (by show RD.dat _ = RD.dat _; rw [List.length_map])
theorem range_at {n i x : Nat} (h : (List.range n)[i]? = some x) : x = i ∧ i < n := by
  obtain ⟨h1, h2⟩ := List.getElem?_eq_some_iff.mp h
  rw [List.getElem_range] at h2
  rw [List.length_range] at h1
  exact ⟨h2.symm, h1⟩
theorem r_all2 {α β : Type} (xs : List α) (ys : α → List β) (p : α → β → Bool) : fAll [.dat (.list (xs.flatMap fun x => (ys x).map fun y => .bool (p x y)))] (.dat (.bool (xs.all fun x => (ys x).all (p x)))) := by
  refine ⟨xs.flatMap fun x => (ys x).map (p x), ?_, ?_⟩
  · rw [List.map_flatMap]
    congr 1
    funext x
    rw [List.map_map]
    rfl
  · rw [List.all_flatMap]
    congr 3
    funext x
    rw [List.all_map]
    rfl
theorem any_nats (r : List Nat) (i : Nat) : ((r.map eN).any fun y => PyData.eqv y (eN i)) = decide (i ∈ r) := by
  rw [List.any_map]
  rw [Bool.eq_iff_iff, List.any_eq_true, decide_eq_true_eq]
  constructor
  · rintro ⟨x, hx, hy⟩
    have := (En.inj (α := Nat) x i).mp hy
    exact this ▸ hx
  · intro h
    exact ⟨i, h, (En.inj (α := Nat) i i).mpr rfl⟩
theorem flat_nats (r : List Nat) : (r.map eN).all flatD = true := by
  rw [List.all_map, List.all_eq_true]
  intro x _
  rfl
theorem dIn_nats (r : List Nat) (i : Nat) : dIn false (.dat (eN i)) (.dat (eR r)) (.dat (.bool (decide (i ∈ r)))) :=
  ⟨by rw [any_nats]; rfl, rfl, flat_nats r⟩
theorem dNotIn_nats (r : List Nat) (i : Nat) : dIn true (.dat (eN i)) (.dat (eR r)) (.dat (.bool (!decide (i ∈ r)))) :=
  ⟨by rw [any_nats]; rfl, rfl, flat_nats r⟩
def eBest : Option (Nat × Word × Dir) → PyData
  | none => .none
  | some x => .tuple [eN x.1, eO x.2.1, eD x.2.2]
theorem dIs_best (x : Option (Nat × Word × Dir)) : dIs false (.dat (eBest x)) (.dat .none) (.dat (.bool x.isNone)) := by cases x <;> rfl
theorem word_if (c : Bool) : (if c = true then PyData.str "ahead" else .str "behind") = eO (if c = true then .ahead else .behind) := by cases c <;> rfl
theorem dir_if (c : Bool) (x y : Dir) : (if c = true then eD x else eD y) = eD (if c = true then x else y) := by cases c <;> rfl
theorem dIn_words (v : Word) : dIn true (.dat (eO v)) (.dat (.tuple [.str "ahead", .str "behind"])) (.dat (.bool false)) := by cases v <;> exact ⟨rfl, rfl, rfl⟩
theorem flipO_if (v : Word) : (if decide (v = .ahead) = true then PyData.str "behind" else .str "ahead") = eO v.flip := by cases v <;> rfl
end Wp
end
section
set_option Elab.async false
set_option linter.all false
set_option autoImplicit false
set_option maxRecDepth 100000
set_option maxHeartbeats 4000000
/-! WpQ: what is seen, as data -/
namespace Wp
open PySem L2 Wm
abbrev eWs (ws : List Way) : PyData := .tuple (ws.map eW)
def eSO : Option Stand → PyData
  | none => .none
  | some s => eS s
abbrev eT (t : Story) : PyData := .tuple [eWs t.1, eS t.2.1, eS t.2.2]
def eWO : Option Way → PyData
  | none => .none
  | some w => eW w
def eSure : Option (List (Option Way)) → PyData
  | none => .none
  | some l => .tuple (l.map eWO)
theorem lay_map {α : Type} (f : α → PyData) (h : ∀ a, (f a).canLay0 = true) : ∀ xs : List α, PyData.canLayAll0 (xs.map f) = true
  | [] => rfl
  | x :: xs => by rw [List.map_cons, PyData.canLayAll0, h x, lay_map f h xs]; rfl
theorem dep_map {α : Type} (f : α → PyData) (n : Nat) (h : ∀ a, (f a).depth ≤ n) : ∀ xs : List α, PyData.depthAll (xs.map f) ≤ n
  | [] => Nat.zero_le _
  | x :: xs => by rw [List.map_cons, PyData.depthAll]; exact Nat.max_le.mpr ⟨h x, dep_map f n h xs⟩
theorem shaped_list {α : Type} (f : α → PyData) (n : Nat) (h : ∀ a, (f a).canLay0 = true ∧ (f a).depth ≤ n) (hn : n < 64) (xs : List α) : SeqAt.shaped (.list (xs.map f)) = true := by
  unfold SeqAt.shaped
  simp only [PyData.canLay0, PyData.depth]
  rw [lay_map f (fun a => (h a).1), Bool.true_and]
  have := dep_map f n (fun a => (h a).2) xs
  exact decide_eq_true (by omega)
theorem eqv_nil (ds : List PyData) : PyData.eqv (.list ds) (.list []) = ds.isEmpty := by
  cases ds <;> simp [PyData.eqv, PyData.eqvAll]
theorem dEq_nil {α : Type} {f : α → PyData} (n : Nat) (h : ∀ a, (f a).canLay0 = true ∧ (f a).depth ≤ n) (hn : n < 64) (xs : List α) : dEq false (.dat (.list (xs.map f))) (.dat (.list [])) (.dat (.bool xs.isEmpty)) :=
  ⟨by rw [eqv_nil]; cases xs <;> rfl, shaped_list f n h hn xs, rfl⟩
theorem dNe_nil {α : Type} {f : α → PyData} (n : Nat) (h : ∀ a, (f a).canLay0 = true ∧ (f a).depth ≤ n) (hn : n < 64) (xs : List α) : dEq true (.dat (.list (xs.map f))) (.dat (.list [])) (.dat (.bool (!xs.isEmpty))) :=
  ⟨by rw [eqv_nil]; cases xs <;> rfl, shaped_list f n h hn xs, rfl⟩
theorem ok_W (w : Way) : (eW w).canLay0 = true ∧ (eW w).depth ≤ 0 := ⟨En.lay w, En.dep w⟩
theorem ok_S (s : Stand) : (eS s).canLay0 = true ∧ (eS s).depth ≤ 1 := ⟨En.lay s, En.dep s⟩
theorem ok_Ws (ws : List Way) : (eWs ws).canLay0 = true ∧ (eWs ws).depth ≤ 1 := ⟨En.lay (Tp.mk ws), En.dep (Tp.mk ws)⟩
theorem ok_T (t : Story) : (eT t).canLay0 = true ∧ (eT t).depth ≤ 2 := by
  constructor
  · simp only [PyData.canLay0, PyData.canLayAll0]
    have h1 := (ok_Ws t.1).1
    have h2 := (ok_S t.2.1).1
    have h3 := (ok_S t.2.2).1
    simp only [PyData.canLay0, PyData.canLayAll0] at h1 h2 h3
    rw [h1, h2, h3]
    rfl
  · have h1 := (ok_Ws t.1).2
    have h2 := (ok_S t.2.1).2
    have h3 := (ok_S t.2.2).2
    rw [PyData.depth, PyData.depthAll, PyData.depthAll, PyData.depthAll, PyData.depthAll]
    omega
theorem dIs_SO (neg : Bool) (x : Option Stand) : dIs neg (.dat (eSO x)) (.dat .none) (.dat (.bool (if neg then x.isSome else x.isNone))) := by cases x <;> cases neg <;> rfl
def setN (w : World) (r : List Nat) : RD := .ob fun p => SetO w p (fun j => decide (j ∈ r.map fun (n : Nat) => (n : Int))) (nub (r.map fun (n : Nat) => (n : Int))).length
def setW (P : Program) (w : World) (ws : List Way) : RD := .ob fun p => SetK P w p (hasK ((ws.map wayS).map Sum.inr)) (nub ((ws.map wayS).map Sum.inr : List Key)).length
/-- a set of ints that are pins' numbers -/
theorem set_nats {P : Program} {w : World} (r : List Nat) (h : r.length ≤ 4000) : fSet P w [.dat (.list (r.map eN))] (setN w r) := by
  refine .inl ⟨r.map fun (n : Nat) => (n : Int), ?_, by rw [List.length_map]; exact h, rfl⟩
  rw [List.map_map]
  rfl
theorem nub_few (r : List Nat) (m : Nat) (h : ∀ x ∈ r, x < m) : (nub (r.map fun (n : Nat) => (n : Int))).length ≤ m := by
  have := nodup_le (nodup_nub (r.map fun (n : Nat) => (n : Int))) (m := (List.range m).map fun (n : Nat) => (n : Int)) fun x hx => by
    obtain ⟨y, hy, rfl⟩ := List.mem_map.mp (mem_nub.mp hx)
    exact List.mem_map.mpr ⟨y, List.mem_range.mpr (h y hy), rfl⟩
  rwa [List.length_map, List.length_range] at this
/-- sorted(set(r)) -/
theorem sorted_nats {w : World} (r s : List Nat) (m : Nat) (hm : m < 64) (h : ∀ x ∈ r, x < m) (hs : s.Pairwise (· < ·)) (hrs : ∀ x, x ∈ s ↔ x ∈ r) :
    fSorted w [setN w r] (.dat (.list (s.map eN))) := by
  refine .inl ⟨r.map fun (n : Nat) => (n : Int), s.map fun (n : Nat) => (n : Int), rfl, ?_, ?_, fun k => ?_, ?_⟩
  · have := nub_few r m h; omega
  · rw [List.pairwise_map]
    exact hs.imp fun h => by omega
  · rw [List.mem_map, List.mem_map]
    exact ⟨fun ⟨x, hx, e⟩ => ⟨x, (hrs x).mp hx, e⟩, fun ⟨x, hx, e⟩ => ⟨x, (hrs x).mpr hx, e⟩⟩
  · rw [List.map_map]
    rfl
/-- sorted(r) of a list of pins' numbers -/
theorem sorted_list {w : World} (r s : List Nat) (hs : s.Pairwise (· ≤ ·)) (hp : s.Perm r) : fSorted w [.dat (.list (r.map eN))] (.dat (.list (s.map eN))) := by
  refine .inr ⟨r.map fun (n : Nat) => (n : Int), s.map fun (n : Nat) => (n : Int), ?_, ?_, hp.map _, ?_⟩
  · rw [List.map_map]; rfl
  · rw [List.pairwise_map]
    exact hs.imp fun h => by omega
  · rw [List.map_map]; rfl
/-- how many ways there are in a row of ways -/
def kinds (ws : List Way) : Nat := (nub (ws.map fun w => Sum.inr (wayS w) : List Key)).length
theorem kinds_one (w : Way) (ws : List Way) : decide ((kinds (w :: ws) : Int) = 1) = ws.all fun v => decide (v = w) := by
  have hS : ∀ v u : Way, (Sum.inr (wayS v) : Key) = Sum.inr (wayS u) ↔ v = u := fun v u => by
    constructor
    · intro e
      have := Sum.inr.inj e
      have h := En.inj (α := Way) v u
      exact h.mp (by show PyData.eqv (.str (wayS v)) (.str (wayS u)) = true; simp only [PyData.eqv, beq_iff_eq]; exact this)
    · rintro rfl; rfl
  rw [Bool.eq_iff_iff, decide_eq_true_eq, List.all_eq_true]
  have hn := nodup_nub ((w :: ws).map fun w => Sum.inr (wayS w) : List Key)
  constructor
  · intro h v hv
    have h' : kinds (w :: ws) = 1 := by omega
    unfold kinds at h'
    obtain ⟨k, hk⟩ := List.length_eq_one_iff.mp h'
    have m1 : (Sum.inr (wayS w) : Key) ∈ nub ((w :: ws).map fun w => Sum.inr (wayS w) : List Key) := mem_nub.mpr (List.mem_map.mpr ⟨w, List.mem_cons_self, rfl⟩)
    have m2 : (Sum.inr (wayS v) : Key) ∈ nub ((w :: ws).map fun w => Sum.inr (wayS w) : List Key) := mem_nub.mpr (List.mem_map.mpr ⟨v, List.mem_cons_of_mem _ hv, rfl⟩)
    rw [hk] at m1 m2
    exact decide_eq_true ((hS v w).mp ((List.mem_singleton.mp m2).trans (List.mem_singleton.mp m1).symm))
  · intro h
    have : kinds (w :: ws) = 1 := by
      refine (nodup_same hn (List.nodup_cons.mpr ⟨List.not_mem_nil, .nil⟩ : [(Sum.inr (wayS w) : Key)].Nodup) fun k => ?_).trans rfl
      rw [mem_nub, List.mem_singleton, List.mem_map]
      constructor
      · rintro ⟨v, hv, rfl⟩
        rcases List.mem_cons.mp hv with rfl | hv
        · rfl
        · rw [of_decide_eq_true (h v hv)]
      · rintro rfl
        exact ⟨w, List.mem_cons_self, rfl⟩
    rw [this]
    rfl
theorem set_ways {P : Program} {w : World} (ws : List Way) (h : ws.length ≤ 4000) : fSet P w [.dat (.list (ws.map eW))] (setW P w ws) := by
  refine .inr ⟨ws.map wayS, ?_, by rw [List.length_map]; exact h, rfl⟩
  rw [List.map_map]
  rfl
theorem len_ways {P : Program} {w : World} (ws : List Way) (h : ws.length ≤ 4000) : fLenA P w [setW P w ws] (.dat (.int (kinds ws : Nat))) := by
  refine .inr (.inr ⟨_, _, rfl, ?_, ?_⟩)
  · refine Nat.le_trans (nub_le _) ?_
    rw [List.length_map, List.length_map]
    exact h
  · unfold kinds
    rw [List.map_map]
    rfl
end Wp
end
section
set_option autoImplicit false
/-! WmP: the law's pen, the board that it draws -/
namespace Wm
structure Pen where
  a : Int
  b : Int
  c : Int
structure PenOk (p : Pen) : Prop where
  a : 0 ≤ p.a
  b : 0 ≤ p.b
  b' : p.b < 2147483648
  c : 0 ≤ p.c
def penOf (cell : Int) : Pen := ⟨if cell - 1000000000000000000 > 0 then cell - 1000000000000000000 else 0, cell % 2147483629 + 1, 0⟩
theorem penOf_ok (cell : Int) : PenOk (penOf cell) := by
  refine ⟨?_, ?_, ?_, Int.le_refl _⟩
  · unfold penOf; simp only; split <;> omega
  · unfold penOf; simp only; omega
  · unfold penOf; simp only; omega
def mixB (p : Pen) : Int := (p.b * 48271 + 1009 * (p.c + 1) + 7) % 2147483647
def mix1 (b : Int) : Int := (b * b + 69621 * b + 11) % 2147483629
def mix2 (m : Int) : Int := (m * m + 40014 * m) % 2147483587
def drawN (p : Pen) (many : Nat) : Nat := if 0 < p.a then (p.a % (many : Int)).toNat else ((mix2 (mix1 (mixB p))) / 16 % (many : Int)).toNat
def drawP (p : Pen) (many : Nat) : Pen := if 0 < p.a then ⟨p.a / (many : Int), p.b, p.c⟩ else ⟨p.a, mixB p, p.c + 1⟩
theorem drawN_lt (p : Pen) {many : Nat} (h : 0 < many) : drawN p many < many := by
  unfold drawN
  split
  · have := Int.emod_lt_of_pos p.a (show (0 : Int) < many by omega)
    have := Int.emod_nonneg p.a (show (many : Int) ≠ 0 by omega)
    omega
  · have := Int.emod_lt_of_pos (mix2 (mix1 (mixB p)) / 16) (show (0 : Int) < many by omega)
    have := Int.emod_nonneg (mix2 (mix1 (mixB p)) / 16) (show (many : Int) ≠ 0 by omega)
    omega
theorem drawP_ok {p : Pen} (h : PenOk p) {many : Nat} (hm : 0 < many) : PenOk (drawP p many) := by
  unfold drawP
  split
  · exact ⟨Int.ediv_nonneg h.a (by omega), h.b, h.b', h.c⟩
  · refine ⟨h.a, ?_, ?_, ?_⟩
    · exact Int.emod_nonneg _ (by decide)
    · have := Int.emod_lt_of_pos (p.b * 48271 + 1009 * (p.c + 1) + 7) (show (0 : Int) < 2147483647 by decide)
      show mixB p < _
      unfold mixB
      omega
    · have := h.c; show (0 : Int) ≤ p.c + 1; omega
/-! ### the board -/
abbrev Spots := List (Nat × Nat)
def spotAt (s : Spots) (i : Nat) : Nat × Nat := s.getD i (0, 0)
def farS (s : Spots) (i j : Nat) : Dir := (((spotAt s j).1 : Int) - (spotAt s i).1, ((spotAt s j).2 : Int) - (spotAt s i).2)
def dirsS (s : Spots) : List Dir := (idx s.length).map fun p => farS s p.1 p.2
def okFrom (acc : List Dir) : List Dir → Bool
  | [] => true
  | d :: ds => if d = (0, 0) then false else if (acc.filter fun o => decide (cross d o = 0)) = [] then okFrom (acc ++ [d]) ds else false
def fitsB (s : Spots) (m : Nat × Nat) : Bool := okFrom [] (dirsS (s ++ [m]))
theorem okFrom_split : ∀ (l1 l2 : List Dir) (acc : List Dir), okFrom acc (l1 ++ l2) = true → okFrom acc l1 = true
  | [], _, _, _ => rfl
  | d :: l1, l2, acc, h => by
    rw [List.cons_append, okFrom] at h
    rw [okFrom]
    split
    · rename_i e; rw [if_pos e] at h; exact h
    · rename_i e
      rw [if_neg e] at h
      split
      · rename_i e2
        rw [if_pos e2] at h
        exact okFrom_split l1 l2 _ h
      · rename_i e2
        rw [if_neg e2] at h
        exact h
theorem okFrom_apart : ∀ (l : List Dir) (acc : List Dir), okFrom acc l = true → (∀ (i : Nat) (d : Dir), l[i]? = some d → d ≠ (0, 0) ∧ (∀ o ∈ acc, cross d o ≠ 0) ∧ ∀ (j : Nat) (e : Dir), j < i → l[j]? = some e → cross d e ≠ 0)
  | [], _, _, i, d, hi => by simp at hi
  | d0 :: l, acc, h, i, d, hi => by
    rw [okFrom] at h
    split at h
    · cases h
    · rename_i hne
      split at h
      · rename_i hf
        have hacc : ∀ o ∈ acc, cross d0 o ≠ 0 := fun o ho e => by
          have : o ∈ acc.filter fun o => decide (cross d0 o = 0) := List.mem_filter.mpr ⟨ho, decide_eq_true e⟩
          rw [hf] at this
          exact List.not_mem_nil this
        cases i with
        | zero =>
          have e := Option.some.inj hi
          subst e
          exact ⟨hne, hacc, fun j e hj => by omega⟩
        | succ i =>
          obtain ⟨h1, h2, h3⟩ := okFrom_apart l (acc ++ [d0]) h i d hi
          refine ⟨h1, fun o ho => h2 o (List.mem_append_left _ ho), fun j e hj he => ?_⟩
          cases j with
          | zero =>
            have e' := Option.some.inj he
            subst e'
            exact h2 d0 (List.mem_append_right _ (List.mem_singleton.mpr rfl))
          | succ j => exact h3 j e (by omega) he
      · cases h
def boardS (s : Spots) (ws : List Way) : Board := (s.zip ws).map fun p => ⟨p.1.1, p.1.2, p.2⟩
theorem boardS_length {s : Spots} {ws : List Way} (h : ws.length = s.length) : (boardS s ws).length = s.length := by
  unfold boardS; rw [List.length_map, List.length_zip]; omega
theorem boardS_at {s : Spots} {ws : List Way} (h : ws.length = s.length) {i : Nat} (hi : i < s.length) : (pin (boardS s ws) i).x = ((spotAt s i).1 : Int) ∧ (pin (boardS s ws) i).y = ((spotAt s i).2 : Int) := by
  have e2 : (s.zip ws)[i]? = some (s[i], ws[i]'(by omega)) := List.getElem?_zip_eq_some.mpr ⟨List.getElem?_eq_getElem hi, List.getElem?_eq_getElem (by omega)⟩
  have e : (boardS s ws)[i]? = some ⟨(s[i]).1, (s[i]).2, ws[i]'(by omega)⟩ := by
    unfold boardS
    rw [List.getElem?_map, e2]
    rfl
  have e3 : spotAt s i = s[i] := by
    unfold spotAt
    rw [List.getD_eq_getElem?_getD, List.getElem?_eq_getElem hi]
    rfl
  unfold pin
  rw [List.getD_eq_getElem?_getD, e, e3]
  exact ⟨rfl, rfl⟩
theorem cross_swap (u v : Dir) : cross u v = - cross v u := by
  unfold cross
  rw [Int.mul_comm u.1 v.2, Int.mul_comm u.2 v.1]
  omega
theorem boardS_valid {s : Spots} {ws : List Way} (h : ws.length = s.length) (h3 : 3 ≤ s.length) (h8 : s.length ≤ 8) (hp : ∀ p ∈ s, p.1 ≤ 99 ∧ p.2 ≤ 99) (hok : okFrom [] (dirsS s) = true) : Valid (boardS s ws) where
  few := by rw [boardS_length h]; exact h3
  most := by rw [boardS_length h]; exact h8
  place p hm := by
    obtain ⟨i, hi, rfl⟩ := pin_of_mem hm
    rw [boardS_length h] at hi
    have := hp (s[i]) (List.getElem_mem hi)
    have e3 : spotAt s i = s[i] := by
      unfold spotAt
      rw [List.getD_eq_getElem?_getD, List.getElem?_eq_getElem hi]
      rfl
    rw [(boardS_at h hi).1, (boardS_at h hi).2, e3]
    omega
  apart i j k l h1 h2 hkl h4 h5 := by
    rw [boardS_length h] at h2 h4
    have hb : ∀ i j, i < s.length → j < s.length → between (boardS s ws) i j = farS s i j := fun i j hi hj => by
      unfold between farS
      rw [(boardS_at h hi).1, (boardS_at h hi).2, (boardS_at h hj).1, (boardS_at h hj).2]
    rw [hb i j (by omega) h2, hb k l (by omega) h4]
    have m1 : (i, j) ∈ idx s.length := mem_idx.mpr ⟨h1, h2⟩
    have m2 : (k, l) ∈ idx s.length := mem_idx.mpr ⟨hkl, h4⟩
    obtain ⟨x, hx⟩ := List.getElem?_of_mem m1
    obtain ⟨y, hy⟩ := List.getElem?_of_mem m2
    have dx : (dirsS s)[x]? = some (farS s i j) := by unfold dirsS; rw [List.getElem?_map, hx]; rfl
    have dy : (dirsS s)[y]? = some (farS s k l) := by unfold dirsS; rw [List.getElem?_map, hy]; rfl
    have hne : x ≠ y := fun e => by
      subst e
      rw [hx] at hy
      have := Option.some.inj hy
      have e1 := congrArg Prod.fst this
      have e2 := congrArg Prod.snd this
      simp only at e1 e2
      omega
    have ap := okFrom_apart _ _ hok
    rcases Nat.lt_or_gt_of_ne hne with c | c
    · have := (ap y _ dy).2.2 x _ c dx
      rw [cross_swap]
      omega
    · exact (ap x _ dx).2.2 y _ c dy
/-- one lap of the search for spots -/
def spotStep (wide many : Nat) (st : Pen × Spots) : Pen × Spots :=
  let p1 := drawP st.1 wide
  let m := (drawN st.1 wide, drawN p1 wide)
  (drawP p1 wide, if st.2.length < many ∧ fitsB st.2 m = true then st.2 ++ [m] else st.2)
def spotRun (wide many : Nat) (st : Pen × Spots) : Nat → Pen × Spots
  | 0 => st
  | n + 1 => spotStep wide many (spotRun wide many st n)
structure SpotsOk (many : Nat) (st : Pen × Spots) : Prop where
  pen : PenOk st.1
  few : st.2.length ≤ many
  at' : ∀ p ∈ st.2, p.1 ≤ 99 ∧ p.2 ≤ 99
  ok : okFrom [] (dirsS st.2) = true
theorem spotStep_ok {wide many : Nat} (hw : 0 < wide) (hw2 : wide ≤ 100) {st : Pen × Spots} (h : SpotsOk many st) : SpotsOk many (spotStep wide many st) := by
  have p1 := drawP_ok h.pen hw
  have p2 := drawP_ok p1 hw
  unfold spotStep
  simp only
  split
  · rename_i c
    refine ⟨p2, ?_, ?_, c.2⟩
    · rw [List.length_append, List.length_singleton]; omega
    · intro p hp
      rcases List.mem_append.mp hp with hp | hp
      · exact h.at' p hp
      · rw [List.mem_singleton.mp hp]
        have h1 := drawN_lt st.1 hw
        have h2 := drawN_lt (drawP st.1 wide) hw
        simp only
        omega
  · exact ⟨p2, h.few, h.at', h.ok⟩
theorem spotRun_ok {wide many : Nat} (hw : 0 < wide) (hw2 : wide ≤ 100) {st : Pen × Spots} (h : SpotsOk many st) : ∀ n, SpotsOk many (spotRun wide many st n)
  | 0 => h
  | n + 1 => spotStep_ok hw hw2 (spotRun_ok hw hw2 h n)
def spare : Spots := [(28, 35), (29, 28), (32, 37), (12, 11), (32, 30), (39, 11), (19, 9), (5, 34)]
def wideOf (p : Pen) : Nat := [100, 30, 12, 100].getD (drawN p 4) 100
def manyOf (p : Pen) (most : Nat) : Nat := 3 + drawN (drawP p 4) (most - 2)
def spotsOf (p : Pen) (most : Nat) : Pen × Spots :=
  let p2 := drawP (drawP p 4) (most - 2)
  let r := spotRun (wideOf p) (manyOf p most) (p2, []) 30
  (r.1, if r.2.length < 3 then spare.take (manyOf p most) else r.2)
def wayOf (n : Nat) : Way := if n = 0 then .left else .right
def waysRun (p : Pen) : Nat → Pen × List Way
  | 0 => (p, [])
  | n + 1 => let r := waysRun p n; (drawP r.1 2, r.2 ++ [wayOf (drawN r.1 2)])
theorem waysRun_length (p : Pen) : ∀ n, (waysRun p n).2.length = n
  | 0 => rfl
  | n + 1 => by unfold waysRun; simp only; rw [List.length_append, waysRun_length p n]; rfl
theorem waysRun_ok {p : Pen} (h : PenOk p) : ∀ n, PenOk (waysRun p n).1
  | 0 => h
  | n + 1 => drawP_ok (waysRun_ok h n) (by decide)
def boardOf (p : Pen) (most : Nat) : Board :=
  let s := spotsOf p most
  let a := drawN s.1 6
  let r := waysRun (drawP s.1 6) s.2.length
  boardS s.2 (if a < 2 then List.replicate s.2.length (wayOf a) else r.2)
def boardPen (p : Pen) (most : Nat) : Pen :=
  let s := spotsOf p most
  (waysRun (drawP s.1 6) s.2.length).1
theorem wide_ok (p : Pen) : 0 < wideOf p ∧ wideOf p ≤ 100 := by
  have h := drawN_lt p (many := 4) (by decide)
  unfold wideOf
  have : drawN p 4 = 0 ∨ drawN p 4 = 1 ∨ drawN p 4 = 2 ∨ drawN p 4 = 3 := by omega
  rcases this with e | e | e | e <;> rw [e] <;> decide
theorem spare_ok : ∀ n, n ≤ 8 → okFrom [] (dirsS (spare.take n)) = true := by decide +kernel
theorem spotsOf_ok {p : Pen} (hp : PenOk p) {most : Nat} (h5 : 3 ≤ most) (h8 : most ≤ 8) : PenOk (spotsOf p most).1 ∧ 3 ≤ (spotsOf p most).2.length ∧ (spotsOf p most).2.length ≤ most ∧ (∀ q ∈ (spotsOf p most).2, q.1 ≤ 99 ∧ q.2 ≤ 99) ∧ okFrom [] (dirsS (spotsOf p most).2) = true := by
  have hm : 3 ≤ manyOf p most ∧ manyOf p most ≤ most := by
    have := drawN_lt (drawP p 4) (many := most - 2) (by omega)
    unfold manyOf
    omega
  have hs : SpotsOk (manyOf p most) (drawP (drawP p 4) (most - 2), ([] : Spots)) := ⟨drawP_ok (drawP_ok hp (by decide)) (by omega), Nat.zero_le _, (fun _ h => nomatch h), rfl⟩
  have hr := spotRun_ok (wide_ok p).1 (wide_ok p).2 hs 30
  unfold spotsOf
  simp only
  split
  · rename_i c
    refine ⟨hr.pen, ?_, ?_, ?_, spare_ok _ (by omega)⟩
    · rw [List.length_take]; show 3 ≤ min _ 8; omega
    · rw [List.length_take]; show min _ 8 ≤ _; omega
    · intro q hq
      have := List.mem_of_mem_take hq
      revert q
      have : ∀ q ∈ spare, q.1 ≤ 99 ∧ q.2 ≤ 99 := by decide
      exact fun q _ h => this q h
  · rename_i c
    exact ⟨hr.pen, by omega, Nat.le_trans hr.few hm.2, hr.at', hr.ok⟩
theorem boardOf_ok {p : Pen} (hp : PenOk p) {most : Nat} (h5 : 3 ≤ most) (h8 : most ≤ 8) : Valid (boardOf p most) ∧ (boardOf p most).length ≤ most ∧ PenOk (boardPen p most) := by
  obtain ⟨h1, h2, h3, h4, h6⟩ := spotsOf_ok hp h5 h8
  have hl : (if drawN (spotsOf p most).1 6 < 2 then List.replicate (spotsOf p most).2.length (wayOf (drawN (spotsOf p most).1 6)) else (waysRun (drawP (spotsOf p most).1 6) (spotsOf p most).2.length).2).length = (spotsOf p most).2.length := by
    split
    · rw [List.length_replicate]
    · rw [waysRun_length]
  refine ⟨boardS_valid hl h2 (by omega) h4 h6, ?_, waysRun_ok (drawP_ok h1 (by decide)) _⟩
  unfold boardOf
  simp only
  rw [boardS_length hl]
  exact h3
/-! ### a row -/
def rowRun (b : Board) (s : Stand) : Nat → Stand × List Nat
  | 0 => (s, [s.own])
  | n + 1 => let r := rowRun b s n; (beat b r.1, r.2 ++ [(beat b r.1).own])
theorem rowRun_ok {b : Board} (hb : Valid b) {s : Stand} (hs : StandOk b s) : ∀ n, StandOk b (rowRun b s n).1 ∧ (rowRun b s n).2.length = n + 1 ∧ ∀ x ∈ (rowRun b s n).2, x < b.length
  | 0 => ⟨hs, rfl, fun x hx => by rw [List.mem_singleton.mp hx]; exact hs.own⟩
  | n + 1 => by
    obtain ⟨h1, h2, h3⟩ := rowRun_ok hb hs n
    have h4 := beat_ok hb h1
    refine ⟨h4, ?_, ?_⟩
    · show ((rowRun b s n).2 ++ _).length = _
      rw [List.length_append, h2]; rfl
    · intro x hx
      rcases List.mem_append.mp hx with hx | hx
      · exact h3 x hx
      · rw [List.mem_singleton.mp hx]; exact h4.own
def standD (b : Board) (k : Nat) : Stand := (allStands b).getD k ⟨0, 1, .ahead⟩
def rowOf (p : Pen) (b : Board) : List Nat :=
  let n := (allStands b).length
  let p1 := drawP p n
  let r := (rowRun b (standD b (drawN p n)) (drawN p1 8)).2
  let p2 := drawP p1 8
  let p3 := drawP p2 r.length
  if 0 < drawN p3 4 then r else r.take (drawN p2 r.length) ++ [drawN (drawP p3 4) b.length] ++ r.drop (drawN p2 r.length + 1)
def rowPen (p : Pen) (b : Board) : Pen :=
  let n := (allStands b).length
  let p1 := drawP p n
  let r := (rowRun b (standD b (drawN p n)) (drawN p1 8)).2
  let p2 := drawP p1 8
  let p3 := drawP p2 r.length
  if 0 < drawN p3 4 then drawP p3 4 else drawP (drawP p3 4) b.length
theorem stands_pos {b : Board} (hb : Valid b) : 0 < (allStands b).length := by
  have : (⟨0, 1, .ahead⟩ : Stand) ∈ allStands b := mem_allStands.mpr ⟨by have := hb.few; show 0 < _; omega, by have := hb.few; show 1 < _; omega, by show 0 ≠ 1; decide⟩
  exact List.length_pos_of_mem this
theorem standD_ok {b : Board} (hb : Valid b) {k : Nat} (hk : k < (allStands b).length) : (allStands b)[k]? = some (standD b k) ∧ StandOk b (standD b k) := by
  have e : (allStands b)[k]? = some (standD b k) := by
    unfold standD
    rw [List.getD_eq_getElem?_getD, List.getElem?_eq_getElem hk]
    rfl
  exact ⟨e, mem_allStands.mp (List.mem_of_getElem? e)⟩
end Wm
end
section
set_option Elab.async false
set_option linter.all false
set_option autoImplicit false
set_option maxRecDepth 100000
set_option maxHeartbeats 4000000
/-! WpR: a list that a def hands over, owned within a loop's turn; the pen -/
namespace Wp
open PySem L2 Wm
section
variable {K : PySem.W.Frag} {ps : List Addr} {G : Env} {M M1 M2 : List Mu} {te : TE} {F : Oc → Prop}
def backG (p : Addr) (F : Oc → Prop) : Oc → Prop
  | .rt (.dat d) M2 => ∃ M' m, M2 = M' ++ [m] ∧ F (.rt (.dat d) M')
  | .nx G M2 => ∃ M' m, M2 = M' ++ [m] ∧ F (.nx G M')
  | .bk G M2 => ∃ M' m, M2 = M' ++ [m] ∧ F (.bk G M')
  | .ct G M2 => ∃ M' m, M2 = M' ++ [m] ∧ F (.ct G M')
  | _ => False
theorem cont_backG {D : Ends} {H0 H H1 : Hp} {p : Addr} {o : HO} (hp : H p = none) (q : ∀ o, F o → Cont K ps D H0 H o) : ∀ oc, backG p F oc → Cont K (ps ++ [p]) D H0 (upd H p o) oc
  | .rt (.dat d) M2, h => by
    obtain ⟨M', x, rfl, f⟩ := h
    intro u H1 H' g m r
    exact q _ f u H1 H' (gr_back hp g) (mok_head m) r
  | .nx _ _, h => by
    obtain ⟨M', x, rfl, f⟩ := h
    intro u H1 H' g e m
    exact q _ f u H1 H' (gr_back hp g) e (mok_head m)
  | .bk _ _, h => by
    obtain ⟨M', x, rfl, f⟩ := h
    intro u H1 H' g e m
    exact q _ f u H1 H' (gr_back hp g) e (mok_head m)
  | .ct _ _, h => by
    obtain ⟨M', x, rfl, f⟩ := h
    intro u H1 H' g e m
    exact q _ f u H1 H' (gr_back hp g) e (mok_head m)
  | .rt (.raw _) _, h => h.elim
  | .rt (.ob _) _, h => h.elim
  | .rt (.sq _) _, h => h.elim
/-- a def that hands over a new list -/
def spN (K : PySem.W.Frag) (R : List RD → List PyData → Prop) : Sp := fun vs H Q _ => ∃ (H0 : Hp) (rs : List RD) (ds : List PyData), Same H0 H ∧ RvAll K H0 vs rs ∧ R rs ds ∧
  ∀ (p : Addr) (H0' H' : Hp) (xs : List V), Gr Pure H0 H H0' H' → H' p = none → DqAll K H0' xs ds → Q (.ref p) (upd H' p (.lst xs))
theorem body_endP {N : List Str} {vs : List V} {H H0 : Hp} {Q : VK} {rs : List RD} {ds : List PyData} {ta : TA} (s : Same H0 H) (hd : RvAll K H0 vs rs)
    (q : ∀ (p : Addr) (H0' H' : Hp) (xs : List V), Gr Pure H0 H H0' H' → H' p = none → DqAll K H0' xs ds → Q (.ref p) (upd H' p (.lst xs)))
    (h : EaG K [] ta (rs.map some ++ List.replicate (N.length - rs.length) none) [] (ds.map .dat) []) (hl : ds.length ≤ big) : (tRet (tLst ta)) { nx := fun _ H' => Q .non H', rt := Q } (L2.start N vs) H :=
  h _ H0 H _ s (EnvOk.start N hd) MOk.nil fun xs H1 H1' g m1 d1 => ⟨by rw [d1.dat.length]; exact big_le hl, fun p hp => q p H1 H1' xs (g.mono fun _ z => nomatch z) hp d1.dat⟩
/-- x = that def(..): owned from here on -/
theorem sv_newC {i : Nat} {t : TA} {E : XK} {u : TS} {R : List RD → List PyData → Prop} {rs : List RD} {ds : List PyData} (h : EaG K ps t G M rs M1) (hR : R rs ds)
    (k : ∀ p, SvP K (ps ++ [p]) u (G.set i (some (.raw (.ref p)))) (M1 ++ [.lst ds]) (backG p F)) : SvP K ps (tSeq (tAsg (tCall (spN K R) [] E t) (gName i)) u) G M F := fun D σ H0 H s e m q =>
  h σ H0 H _ s e m fun vs H1 H1' g m1 d => ⟨H1, rs, ds, g.sub, by rw [List.append_nil]; exact d, hR, fun p H2 H2' xs g2 hp hx => by
    have m2 : MOk K ps M1 H2 H2' := m1.keep g2 fun _ _ z => z
    have gg : Gr (Wn ps) H0 H H2 H2' := g.trans g2.pure
    exact k p D _ H2 (upd H2' p (.lst xs)) (Gr.newM (W := Pure) g2.sub hp).sub (((e.mono g.lo).mono g2.lo).set i rfl) (mok_snoc (H1 := H2) m2 g2.sub hp ⟨xs, upd_same, hx⟩) (cont_backG (H1 := H2) hp fun o fo => (q o fo).after gg)⟩
abbrev ePen (p : Pen) : List PyData := [.int p.a, .int p.b, .int p.c]
theorem y_setOwn {to ti : TE} {j k : Nat} {p : Addr} {ds : List PyData} {i : Int} {d : PyData} {u : TS} (h : EvG K ps te G M (.dat d) M) (ho : EvG K ps to G M (.raw (.ref p)) M) (hi : EvG K ps ti G M (.dat (.int i)) M) (hp : ps[j]? = some p) (hM : M[j]? = some (.lst ds)) (hk : ixN ds.length i = some k)
    (f : SvP K ps u G (M.set j (.lst (ds.set k d))) F) : SvP K ps (tSeq (tAsg te (gSub to ti rSetL)) u) G M F := sv_seq (sv_setOwn h ho hi hp hM hk f)
end
theorem dMod_at {i j : Int} (h : 0 < j) : dMod (.dat (.int i)) (.dat (.int j)) (.dat (.int (i % j))) := ⟨h, rfl⟩
theorem dDiv_at {i j : Int} (h : 0 < j ∧ j < 1073741824) : dDiv (.dat (.int i)) (.dat (.int j)) (.dat (.int (i / j))) := ⟨h, rfl⟩
theorem dMul_at {i j : Int} (h : CMul i j) : dMul (.dat (.int i)) (.dat (.int j)) (.dat (.int (i * j))) := ⟨h, rfl⟩
end Wp
end
section
set_option autoImplicit false
/-! WmE: what is met first does not hang on the order; mirror, other numbers -/
namespace Wm
/-- a direction to the side of a way -/
def sg (v : Way) : Int := match v with | .left => 1 | .right => -1
theorem toSide_iff {a d : Dir} {v : Way} (h : cross a d ≠ 0) : toSide a v d = true ↔ 0 < sg v * cross a d := by
  unfold toSide sg
  cases v with
  | left => simp
  | right =>
    simp
    omega
theorem cross_neg_l (a d : Dir) : cross (neg a) d = - cross a d := by
  unfold cross neg
  simp only [Int.zero_sub]
  rw [Int.neg_mul, Int.neg_mul]
  omega
theorem cross_neg_r (a d : Dir) : cross a (neg d) = - cross a d := by
  unfold cross neg
  simp only [Int.zero_sub]
  rw [Int.mul_neg, Int.mul_neg]
  omega
theorem cross_anti (u v : Dir) : cross u v = - cross v u := by
  unfold cross
  rw [Int.mul_comm u.1 v.2, Int.mul_comm u.2 v.1]
  omega
/-- three directions, seen from a fourth one -/
theorem plucker (l a b c : Dir) : cross a c * cross l b = cross a b * cross l c + cross b c * cross l a := by
  unfold cross
  simp only [Int.sub_mul, Int.mul_sub]
  have e : ∀ x y z w : Int, x * y * (z * w) = x * z * (y * w) := fun x y z w => by
    rw [Int.mul_assoc, Int.mul_assoc]
    congr 1
    rw [← Int.mul_assoc, ← Int.mul_assoc, Int.mul_comm y z]
  obtain ⟨l1, l2⟩ := l
  obtain ⟨a1, a2⟩ := a
  obtain ⟨b1, b2⟩ := b
  obtain ⟨c1, c2⟩ := c
  simp only
  simp only [Int.mul_assoc, Int.mul_comm, Int.mul_left_comm]
  omega
/-- a comes first, then d -/
def Bf (v : Way) (a d : Dir) : Prop := 0 < sg v * cross a d
theorem sg_mul (v : Way) : sg v * sg v = 1 := by cases v <;> rfl
theorem Bf.trans {v : Way} {l a b c : Dir} (ha : Bf v l a) (hb : Bf v l b) (hc : Bf v l c) (h1 : Bf v a b) (h2 : Bf v b c) : Bf v a c := by
  unfold Bf at *
  have p := plucker l a b c
  have q1 : 0 < (sg v * cross a b) * (sg v * cross l c) := Int.mul_pos h1 hc
  have q2 : 0 < (sg v * cross b c) * (sg v * cross l a) := Int.mul_pos h2 ha
  have e : ∀ x y : Int, (sg v * x) * (sg v * y) = x * y := fun x y => by
    rw [Int.mul_assoc, ← Int.mul_assoc x, Int.mul_comm x, Int.mul_assoc, ← Int.mul_assoc, sg_mul, Int.one_mul]
  rw [e] at q1 q2
  have q3 : 0 < cross a c * cross l b := by rw [p]; omega
  have q4 : 0 < (sg v * cross a c) * (sg v * cross l b) := by rw [e]; exact q3
  exact Int.pos_of_mul_pos_left q4 hb
theorem Bf.anti {v : Way} {a b : Dir} (h : Bf v a b) : ¬ Bf v b a := by
  unfold Bf at *
  rw [cross_anti b a, Int.mul_neg]
  omega
theorem Bf.total {v : Way} {a b : Dir} (h : cross a b ≠ 0) : Bf v a b ∨ Bf v b a := by
  unfold Bf
  rw [cross_anti b a, Int.mul_neg]
  have : sg v * cross a b ≠ 0 := by
    unfold sg
    cases v <;> simp <;> exact h
  omega
/-! ### what a pin shows -/
def isAh (b : Board) (own : Nat) (look : Dir) (v : Way) (p : Nat) : Bool := toSide look v (between b own p)
def thn (b : Board) (own : Nat) (look : Dir) (v : Way) (p : Nat) : Dir := if isAh b own look v p = true then between b own p else neg (between b own p)
def wrd (b : Board) (own : Nat) (look : Dir) (v : Way) (p : Nat) : Word := if isAh b own look v p = true then .ahead else .behind
def cand (b : Board) (own : Nat) (look : Dir) (v : Way) (p : Nat) : Nat × Word × Dir := (p, wrd b own look v p, thn b own look v p)
structure Gen (b : Board) (own : Nat) (look : Dir) (l : List Nat) : Prop where
  look : ∀ p ∈ l, cross look (between b own p) ≠ 0
  two : ∀ p ∈ l, ∀ q ∈ l, p ≠ q → cross (between b own p) (between b own q) ≠ 0
section
variable {b : Board} {own : Nat} {look : Dir} {v : Way} {l : List Nat}
theorem thn_side {p : Nat} (h : cross look (between b own p) ≠ 0) : Bf v look (thn b own look v p) := by
  unfold thn isAh Bf
  by_cases c : toSide look v (between b own p) = true
  · rw [if_pos c]
    exact (toSide_iff h).mp c
  · rw [if_neg c, cross_neg_r, Int.mul_neg]
    have h1 : ¬ 0 < sg v * cross look (between b own p) := fun z => c ((toSide_iff h).mpr z)
    have h2 : sg v * cross look (between b own p) ≠ 0 := by
      unfold sg
      cases v <;> simp <;> exact h
    omega
theorem thn_cross (p q : Nat) (h : cross (between b own p) (between b own q) ≠ 0) : cross (thn b own look v p) (thn b own look v q) ≠ 0 := by
  unfold thn
  split
  · split
    · exact h
    · rw [cross_neg_r]; omega
  · split
    · rw [cross_neg_l]; omega
    · rw [cross_neg_l, cross_neg_r]; omega
theorem metStep_cand (p0 p : Nat) : metStep b own look v (some (cand b own look v p0)) p = if toSide (thn b own look v p) v (thn b own look v p0) = true then some (cand b own look v p) else some (cand b own look v p0) := rfl
theorem fold_min : ∀ (l : List Nat) (p0 : Nat), Gen b own look (p0 :: l) → ∃ m, m ∈ p0 :: l ∧ l.foldl (metStep b own look v) (some (cand b own look v p0)) = some (cand b own look v m) ∧ ∀ q ∈ p0 :: l, q ≠ m → Bf v (thn b own look v m) (thn b own look v q)
  | [], p0, _ => ⟨p0, List.mem_cons_self, by rw [List.foldl_nil], fun q hq hn => absurd (List.mem_singleton.mp hq) hn⟩
  | p :: l, p0, g => by
    have sd : ∀ q ∈ p0 :: p :: l, Bf v look (thn b own look v q) := fun q hq => thn_side (g.look q hq)
    rw [List.foldl_cons, metStep_cand]
    by_cases e : p = p0
    · subst e
      have hz : (if toSide (thn b own look v p) v (thn b own look v p) = true then some (cand b own look v p) else some (cand b own look v p)) = some (cand b own look v p) := by split <;> rfl
      rw [hz]
      obtain ⟨m, hm, h1, h2⟩ := fold_min l p ⟨fun q hq => g.look q (List.mem_cons_of_mem _ hq), fun q hq r hr => g.two q (List.mem_cons_of_mem _ hq) r (List.mem_cons_of_mem _ hr)⟩
      refine ⟨m, List.mem_cons_of_mem _ hm, h1, fun q hq hn => ?_⟩
      rcases List.mem_cons.mp hq with rfl | hq
      · exact h2 q List.mem_cons_self hn
      · exact h2 q hq hn
    · have hc : cross (thn b own look v p) (thn b own look v p0) ≠ 0 := thn_cross _ _ (g.two p (List.mem_cons_of_mem _ List.mem_cons_self) p0 List.mem_cons_self e)
      by_cases c : toSide (thn b own look v p) v (thn b own look v p0) = true
      · rw [if_pos c]
        have hb : Bf v (thn b own look v p) (thn b own look v p0) := (toSide_iff hc).mp c
        obtain ⟨m, hm, h1, h2⟩ := fold_min l p ⟨fun q hq => g.look q (List.mem_cons_of_mem _ hq), fun q hq r hr => g.two q (List.mem_cons_of_mem _ hq) r (List.mem_cons_of_mem _ hr)⟩
        refine ⟨m, List.mem_cons_of_mem _ hm, h1, fun q hq hn => ?_⟩
        rcases List.mem_cons.mp hq with rfl | hq
        · by_cases e2 : m = p
          · subst e2; exact hb
          · exact (sd m (List.mem_cons_of_mem _ hm)).trans (sd p (List.mem_cons_of_mem _ List.mem_cons_self)) (sd q List.mem_cons_self) (h2 p List.mem_cons_self fun z => e2 z.symm) hb
        · exact h2 q hq hn
      · rw [if_neg c]
        have hb : Bf v (thn b own look v p0) (thn b own look v p) := (Bf.total hc).elim (fun z => absurd ((toSide_iff hc).mpr z) c) id
        have sub : ∀ q ∈ p0 :: l, q ∈ p0 :: p :: l := fun q hq => by
          rcases List.mem_cons.mp hq with rfl | hq
          · exact List.mem_cons_self
          · exact List.mem_cons_of_mem _ (List.mem_cons_of_mem _ hq)
        obtain ⟨m, hm, h1, h2⟩ := fold_min l p0 ⟨fun q hq => g.look q (sub q hq), fun q hq r hr => g.two q (sub q hq) r (sub r hr)⟩
        refine ⟨m, sub m hm, h1, fun q hq hn => ?_⟩
        rcases List.mem_cons.mp hq with rfl | hq
        · exact h2 q List.mem_cons_self hn
        · rcases List.mem_cons.mp hq with rfl | hq
          · by_cases e2 : m = p0
            · subst e2; exact hb
            · exact (sd m (sub m hm)).trans (sd p0 List.mem_cons_self) (sd q (List.mem_cons_of_mem _ List.mem_cons_self)) (h2 p0 List.mem_cons_self fun z => e2 z.symm) hb
          · exact h2 q (List.mem_cons_of_mem _ hq) hn
theorem met_min (g : Gen b own look l) (hl : l ≠ []) : ∃ m, m ∈ l ∧ metFirst b own look v l = some (cand b own look v m) ∧ ∀ q ∈ l, q ≠ m → Bf v (thn b own look v m) (thn b own look v q) := by
  cases l with
  | nil => exact absurd rfl hl
  | cons p l => exact fold_min l p g
theorem met_is (g : Gen b own look l) {m : Nat} (hm : m ∈ l) (h : ∀ q ∈ l, q ≠ m → Bf v (thn b own look v m) (thn b own look v q)) : metFirst b own look v l = some (cand b own look v m) := by
  obtain ⟨k, hk, e, hm2⟩ := met_min (v := v) g (List.ne_nil_of_mem hm)
  by_cases c : k = m
  · rw [e, c]
  · exact absurd (hm2 m hm fun z => c z.symm) (h k hk c).anti
end
/-! ### a board's general lie -/
section
variable {b : Board}
theorem between_swap (b : Board) (i j : Nat) : between b i j = neg (between b j i) := by
  unfold between neg
  simp only [Int.zero_sub]
  refine Prod.ext ?_ ?_ <;> simp only <;> omega
theorem Valid.two (h : Valid b) {i j k l : Nat} (hi : i < b.length) (hj : j < b.length) (hk : k < b.length) (hl : l < b.length) (hij : i ≠ j) (hkl : k ≠ l) (h1 : ¬ (i = k ∧ j = l)) (h2 : ¬ (i = l ∧ j = k)) : cross (between b i j) (between b k l) ≠ 0 := by
  rcases Nat.lt_or_gt_of_ne hij with c | c <;> rcases Nat.lt_or_gt_of_ne hkl with d | d
  · exact h.apart i j k l c hj d hl (by omega)
  · rw [between_swap b k l, cross_neg_r]
    have := h.apart i j l k c hj d hk (by omega)
    omega
  · rw [between_swap b i j, cross_neg_l]
    have := h.apart j i k l c hi d hl (by omega)
    omega
  · rw [between_swap b i j, between_swap b k l, cross_neg_l, cross_neg_r]
    have := h.apart j i l k c hi d hk (by omega)
    omega
theorem look_cross {s : Stand} {d : Dir} (h : cross (between b s.own s.last) d ≠ 0) : cross (lookOf b s) d ≠ 0 := by
  unfold lookOf
  cases s.word with
  | ahead => exact h
  | behind =>
    simp only
    rw [between_swap b s.last s.own, cross_neg_l]
    omega
/-- a stand's own line among the pins beside it -/
theorem gen_beat (h : Valid b) {s : Stand} (hs : StandOk b s) : Gen b s.own (lookOf b s) (beside b s.own s.last) where
  look p hp := by
    obtain ⟨h1, h2, h3⟩ := mem_beside.mp hp
    exact look_cross (h.two hs.own hs.last hs.own h1 hs.ne (fun e => h2 e.symm) (fun e => h3 e.2.symm) (fun e => h2 e.1.symm))
  two p hp q hq hpq := by
    obtain ⟨h1, h2, h3⟩ := mem_beside.mp hp
    obtain ⟨h4, h5, h6⟩ := mem_beside.mp hq
    exact h.two hs.own h1 hs.own h4 (fun e => h2 e.symm) (fun e => h5 e.symm) (fun e => hpq e.2) (fun e => h5 e.1.symm)
theorem beat_is (h : Valid b) {s : Stand} (hs : StandOk b s) {m : Nat} (hm : m ∈ beside b s.own s.last) (hmin : ∀ q ∈ beside b s.own s.last, q ≠ m → Bf (way b s.own) (thn b s.own (lookOf b s) (way b s.own) m) (thn b s.own (lookOf b s) (way b s.own) q)) :
    beat b s = ⟨m, s.own, (wrd b s.own (lookOf b s) (way b s.own) m).flip⟩ := by
  unfold beat
  rw [met_is (gen_beat h hs) hm hmin]
  rfl
theorem beat_min (h : Valid b) {s : Stand} (hs : StandOk b s) : ∃ m, m ∈ beside b s.own s.last ∧ beat b s = ⟨m, s.own, (wrd b s.own (lookOf b s) (way b s.own) m).flip⟩ ∧ ∀ q ∈ beside b s.own s.last, q ≠ m → Bf (way b s.own) (thn b s.own (lookOf b s) (way b s.own) m) (thn b s.own (lookOf b s) (way b s.own) q) := by
  obtain ⟨m, hm, e, hmin⟩ := met_min (v := way b s.own) (gen_beat h hs) (beside_ne h.few)
  exact ⟨m, hm, beat_is h hs hm hmin, hmin⟩
end
end Wm
end
section
set_option autoImplicit false
/-! WmF: boards alike: what is seen there is alike -/
namespace Wm
structure Sim (b c : Board) (f g : Nat → Nat) (T : Dir → Dir) (ε : Int) : Prop where
  len : c.length = b.length
  ft : ∀ i, i < b.length → f i < b.length
  gt : ∀ i, i < b.length → g i < b.length
  fg : ∀ i, i < b.length → f (g i) = i
  gf : ∀ i, i < b.length → g (f i) = i
  dir : ∀ i j, i < b.length → j < b.length → between c (f i) (f j) = T (between b i j)
  neg : ∀ d, T (neg d) = neg (T d)
  crs : ∀ a d, cross (T a) (T d) = ε * cross a d
  eps : ε = 1 ∨ ε = -1
  inv : ∀ d, T (T d) = d
variable {b c : Board} {f g : Nat → Nat} {T : Dir → Dir} {ε : Int}
theorem Sim.symm (S : Sim b c f g T ε) : Sim c b g f T ε where
  len := S.len.symm
  ft i hi := by rw [S.len] at hi ⊢; exact S.gt i hi
  gt i hi := by rw [S.len] at hi ⊢; exact S.ft i hi
  fg i hi := S.gf i (by rw [← S.len]; exact hi)
  gf i hi := S.fg i (by rw [← S.len]; exact hi)
  dir i j hi hj := by
    rw [S.len] at hi hj
    have := S.dir (g i) (g j) (S.gt i hi) (S.gt j hj)
    rw [S.fg i hi, S.fg j hj] at this
    rw [this, S.inv]
  neg := S.neg
  crs := S.crs
  eps := S.eps
  inv := S.inv
theorem Sim.inj (S : Sim b c f g T ε) {i j : Nat} (hi : i < b.length) (hj : j < b.length) (h : f i = f j) : i = j := by
  rw [← S.gf i hi, ← S.gf j hj, h]
def pm (f : Nat → Nat) (s : Stand) : Stand := ⟨f s.own, f s.last, s.word⟩
theorem eps_sq (h : ε = 1 ∨ ε = -1) : ε * ε = 1 := by rcases h with rfl | rfl <;> rfl
theorem Sim.ok (S : Sim b c f g T ε) {s : Stand} (hs : StandOk b s) : StandOk c (pm f s) :=
  ⟨by rw [S.len]; exact S.ft _ hs.own, by rw [S.len]; exact S.ft _ hs.last, fun e => hs.ne (S.inj hs.own hs.last e)⟩
theorem Sim.look (S : Sim b c f g T ε) {s : Stand} (hs : StandOk b s) : lookOf c (pm f s) = T (lookOf b s) := by
  unfold lookOf pm
  simp only
  cases s.word with
  | ahead => exact S.dir _ _ hs.own hs.last
  | behind => exact S.dir _ _ hs.last hs.own
theorem Sim.bf (S : Sim b c f g T ε) {v w : Way} (hw : sg w = ε * sg v) (a d : Dir) : Bf w (T a) (T d) ↔ Bf v a d := by
  unfold Bf
  rw [hw, S.crs]
  have e : ε * sg v * (ε * cross a d) = sg v * cross a d := by
    have := eps_sq S.eps
    rcases S.eps with rfl | rfl
    · simp
    · simp [Int.neg_mul_neg]
  rw [e]
theorem Sim.side (S : Sim b c f g T ε) {v w : Way} (hw : sg w = ε * sg v) {a d : Dir} (h : cross a d ≠ 0) : toSide (T a) w (T d) = toSide a v d := by
  have h2 : cross (T a) (T d) ≠ 0 := by
    rw [S.crs]
    rcases S.eps with e | e <;> rw [e] <;> omega
  rw [Bool.eq_iff_iff, toSide_iff h, toSide_iff h2]
  exact S.bf hw a d
/-- a beat there is the beat here -/
theorem Sim.beat (S : Sim b c f g T ε) (hb : Valid b) (hc : Valid c) {s : Stand} (hs : StandOk b s) (hw : sg (way c (f s.own)) = ε * sg (way b s.own)) : Wm.beat c (pm f s) = pm f (Wm.beat b s) := by
  obtain ⟨m, hm, e, hmin⟩ := beat_min hb hs
  have gen := gen_beat hb hs
  have hah : ∀ q ∈ beside b s.own s.last, isAh c (f s.own) (lookOf c (pm f s)) (way c (f s.own)) (f q) = isAh b s.own (lookOf b s) (way b s.own) q := fun q hq => by
    unfold isAh
    rw [S.look hs, S.dir _ _ hs.own (mem_beside.mp hq).1]
    exact S.side hw (gen.look q hq)
  have hth : ∀ q ∈ beside b s.own s.last, thn c (f s.own) (lookOf c (pm f s)) (way c (f s.own)) (f q) = T (thn b s.own (lookOf b s) (way b s.own) q) := fun q hq => by
    unfold thn
    rw [hah q hq, S.dir _ _ hs.own (mem_beside.mp hq).1]
    split
    · rfl
    · rw [S.neg]
  have hmem : ∀ q, q ∈ beside b s.own s.last → f q ∈ beside c (pm f s).own (pm f s).last := fun q hq => by
    obtain ⟨h1, h2, h3⟩ := mem_beside.mp hq
    exact mem_beside.mpr ⟨by rw [S.len]; exact S.ft q h1, fun e => h2 (S.inj h1 hs.own e), fun e => h3 (S.inj h1 hs.last e)⟩
  have := beat_is hc (S.ok hs) (m := f m) (hmem m hm) (fun q' hq' hne => by
    obtain ⟨h1, h2, h3⟩ := mem_beside.mp hq'
    rw [S.len] at h1
    have hq : g q' ∈ beside b s.own s.last := mem_beside.mpr ⟨S.gt q' h1, fun e => h2 (by show q' = f s.own; rw [← e, S.fg q' h1]), fun e => h3 (by show q' = f s.last; rw [← e, S.fg q' h1])⟩
    have e2 : q' = f (g q') := (S.fg q' h1).symm
    rw [e2]
    show Bf (way c (f s.own)) (thn c (f s.own) (lookOf c (pm f s)) (way c (f s.own)) (f m)) (thn c (f s.own) (lookOf c (pm f s)) (way c (f s.own)) (f (g q')))
    rw [hth m hm, hth _ hq, S.bf hw]
    exact hmin _ hq fun e3 => hne (by rw [e2, e3]))
  rw [this, e]
  unfold pm wrd
  simp only
  have h2 := hah m hm
  unfold pm at h2
  rw [h2]
theorem Sim.follow (S : Sim b c f g T ε) (hb : Valid b) (hc : Valid c) : ∀ (row : List Nat) (s : Stand), StandOk b s → (∀ x ∈ row, x < b.length) → (∀ x ∈ (s.own :: row).dropLast, x < b.length → sg (way c (f x)) = ε * sg (way b x)) → Wm.follow c (pm f s) (row.map f) = (Wm.follow b s row).map (pm f)
  | [], s, _, _, _ => rfl
  | p :: row, s, hs, hr, hw => by
    have hbt := S.beat hb hc hs (hw s.own (by rw [List.dropLast_cons_of_ne_nil (List.cons_ne_nil _ _)]; exact List.mem_cons_self) hs.own)
    have ok2 := beat_ok hb hs
    rw [List.map_cons]
    unfold Wm.follow
    rw [hbt]
    by_cases h : (Wm.beat b s).own = p
    · rw [if_pos h, if_pos (show (pm f (Wm.beat b s)).own = f p from congrArg f h)]
      refine S.follow hb hc row _ ok2 (fun x hx => hr x (List.mem_cons_of_mem _ hx)) fun x hx hlt => hw x ?_ hlt
      rw [List.dropLast_cons_of_ne_nil (List.cons_ne_nil _ _)]
      rw [h] at hx
      exact List.mem_cons_of_mem _ hx
    · rw [if_neg h, if_neg (show ¬ (pm f (Wm.beat b s)).own = f p from fun e => h (S.inj ok2.own (hr p List.mem_cons_self) e))]
      rfl
theorem Sim.endOf (S : Sim b c f g T ε) (hb : Valid b) (hc : Valid c) {row : List Nat} {s : Stand} (hs : StandOk b s) (hr : ∀ x ∈ row, x < b.length) (hw : ∀ x ∈ row.dropLast, x < b.length → sg (way c (f x)) = ε * sg (way b x)) : Wm.endOf c (pm f s) (row.map f) = (Wm.endOf b s row).map (pm f) := by
  cases row with
  | nil => rfl
  | cons q row =>
    rw [List.map_cons]
    unfold Wm.endOf
    simp only
    by_cases h : s.own = q
    · rw [if_pos h, if_pos (show (pm f s).own = f q from congrArg f h)]
      exact S.follow hb hc row s hs (fun x hx => hr x (List.mem_cons_of_mem _ hx)) fun x hx hlt => hw x (by rw [← h]; exact hx) hlt
    · rw [if_neg h, if_neg (show ¬ (pm f s).own = f q from fun e => h (S.inj hs.own (hr q List.mem_cons_self) e))]
      rfl
theorem sim_like (h : Like b c) : Sim b c id id id 1 where
  len := h.len
  ft i hi := hi
  gt i hi := hi
  fg i _ := rfl
  gf i _ := rfl
  dir i j hi hj := h.between hi hj
  neg _ := rfl
  crs a d := by rw [Int.one_mul]; rfl
  eps := .inl rfl
  inv _ := rfl
/-- only the ways of the pins had, but the last one, count -/
theorem end_ways (h : Like b c) (hb : Valid b) {row : List Nat} {s : Stand} (hs : StandOk b s) (hr : ∀ x ∈ row, x < b.length) (hw : ∀ x ∈ row.dropLast, x < b.length → way c x = way b x) : endOf c s row = endOf b s row := by
  have := (sim_like h).endOf hb (h.valid hb) hs hr fun x hx hlt => by rw [Int.one_mul]; exact congrArg sg (hw x hx hlt)
  rw [show (pm id s) = s from rfl, List.map_id] at this
  rw [this]
  cases endOf b s row <;> rfl
/-! ### stories -/
def fw (ε : Int) (v : Way) : Way := if ε = 1 then v else v.flip
theorem sg_flip (v : Way) : sg v.flip = - sg v := by cases v <;> rfl
theorem sg_fw (h : ε = 1 ∨ ε = -1) (v : Way) : sg (fw ε v) = ε * sg v := by
  unfold fw
  rcases h with rfl | rfl
  · rw [if_pos rfl, Int.one_mul]
  · rw [if_neg (by decide), sg_flip]; omega
theorem fw_fw (v : Way) : fw ε (fw ε v) = v := by
  unfold fw
  split
  · rfl
  · exact Way.flip_flip v
def mw (g : Nat → Nat) (ε : Int) (n : Nat) (ws : List Way) : List Way := (List.range n).map fun j => fw ε (ws.getD (g j) .left)
theorem mw_length (g : Nat → Nat) (ε : Int) (n : Nat) (ws : List Way) : (mw g ε n ws).length = n := by unfold mw; rw [List.length_map, List.length_range]
theorem mw_at {n j : Nat} {ws : List Way} (hj : j < n) : (mw g ε n ws)[j]? = some (fw ε (ws.getD (g j) .left)) := by
  unfold mw
  rw [List.getElem?_map, List.getElem?_range hj]
  rfl
theorem way_byWays {b : Board} {ws : List Way} {i : Nat} (hi : i < b.length) (hl : ws.length = b.length) : way (byWays b ws) i = ws.getD i .left := by
  unfold way
  rw [byWays_at hi (List.getElem?_eq_getElem (by omega)), List.getD_eq_getElem?_getD, List.getElem?_eq_getElem (by omega)]
  rfl
theorem getD_mw {n j : Nat} {ws : List Way} (hj : j < n) : (mw g ε n ws).getD j .left = fw ε (ws.getD (g j) .left) := by
  rw [List.getD_eq_getElem?_getD, mw_at hj]
  rfl
theorem Sim.mw_mw (S : Sim b c f g T ε) {ws : List Way} (hl : ws.length = b.length) : mw f ε b.length (mw g ε b.length ws) = ws := by
  apply List.ext_getElem?
  intro i
  by_cases hi : i < b.length
  · rw [mw_at hi, getD_mw (S.ft i hi), fw_fw, S.gf i hi, List.getD_eq_getElem?_getD, List.getElem?_eq_getElem (by omega)]
    rfl
  · rw [List.getElem?_eq_none (by rw [mw_length]; omega), List.getElem?_eq_none (by omega)]
theorem Sim.ways (S : Sim b c f g T ε) {ws : List Way} (hl : ws.length = b.length) : Sim (byWays b ws) (byWays c (mw g ε b.length ws)) f g T ε := by
  have l1 := like_byWays hl
  have l2 : Like c (byWays c (mw g ε b.length ws)) := like_byWays (by rw [mw_length, S.len])
  refine ⟨by rw [l1.len, l2.len, S.len], ?_, ?_, ?_, ?_, ?_, S.neg, S.crs, S.eps, S.inv⟩ <;> rw [l1.len]
  · exact S.ft
  · exact S.gt
  · exact S.fg
  · exact S.gf
  · intro i j hi hj
    rw [l1.between hi hj, l2.between (by rw [S.len]; exact S.ft i hi) (by rw [S.len]; exact S.ft j hj)]
    exact S.dir i j hi hj
theorem Sim.wayOk (S : Sim b c f g T ε) {ws : List Way} (hl : ws.length = b.length) {x : Nat} (hx : x < b.length) : sg (way (byWays c (mw g ε b.length ws)) (f x)) = ε * sg (way (byWays b ws) x) := by
  rw [way_byWays (by rw [S.len]; exact S.ft x hx) (by rw [mw_length, S.len]), way_byWays hx hl, getD_mw (S.ft x hx), S.gf x hx, sg_fw S.eps]
def mt (f g : Nat → Nat) (ε : Int) (n : Nat) (t : Story) : Story := (mw g ε n t.1, pm f t.2.1, pm f t.2.2)
theorem Sim.story (S : Sim b c f g T ε) (hb : Valid b) (hc : Valid c) {row : List Nat} (hr : ∀ x ∈ row, x < b.length) {t : Story} (ht : t ∈ stories b row) : mt f g ε b.length t ∈ stories c (row.map f) := by
  obtain ⟨h1, h2, h3⟩ := mem_stories.mp ht
  have l1 := like_byWays h1
  have l2 : Like c (byWays c (mw g ε b.length t.1)) := like_byWays (by rw [mw_length, S.len])
  have S2 := S.ways h1
  have hs := mem_allStands.mp h2
  refine mem_stories.mpr ⟨by show (mw g ε b.length t.1).length = _; rw [mw_length, S.len], mem_allStands.mpr (S2.ok hs), ?_⟩
  have := S2.endOf (l1.valid hb) (l2.valid hc) hs (row := row) (by rw [l1.len]; exact hr) fun x _ hlt => S.wayOk h1 (by rw [← l1.len]; exact hlt)
  show Wm.endOf (byWays c (mw g ε b.length t.1)) (pm f t.2.1) (row.map f) = _
  rw [this, h3]
  rfl
theorem Sim.mt_mt (S : Sim b c f g T ε) (hb : Valid b) {row : List Nat} {t : Story} (ht : t ∈ stories b row) : mt g f ε b.length (mt f g ε b.length t) = t := by
  obtain ⟨h1, h2, h3⟩ := mem_stories.mp ht
  have l1 := like_byWays h1
  have hs := mem_allStands.mp h2
  have he := end_ok (l1.valid hb) hs h3
  have hp : ∀ s : Stand, StandOk (byWays b t.1) s → pm g (pm f s) = s := fun s hs => by
    have o1 := hs.own
    have o2 := hs.last
    rw [l1.len] at o1 o2
    unfold pm
    simp only
    rw [S.gf _ o1, S.gf _ o2]
  unfold mt
  simp only
  rw [S.mw_mw h1, hp _ hs, hp _ he]
theorem count_le {α β : Type} {l : List α} {l' : List β} (hl : l.Nodup) (F : α → β) (G : β → α) (hG : ∀ x ∈ l, G (F x) = x) (h : ∀ x ∈ l, F x ∈ l') : l.length ≤ l'.length := by
  have hn : (l.map F).Nodup := by
    rw [List.Nodup, List.pairwise_map]
    exact List.Pairwise.imp_of_mem (fun {a b} ha hb hab e => hab (by rw [← hG a ha, ← hG b hb, e])) hl
  have := List.Nodup.length_le_of_subset hn (l₂ := l') (fun y hy => by
    obtain ⟨x, hx, rfl⟩ := List.mem_map.mp hy
    exact h x hx)
  rwa [List.length_map] at this
theorem allWays_nodup : ∀ n, (allWays n).Nodup
  | 0 => List.nodup_cons.mpr ⟨List.not_mem_nil, .nil⟩
  | n + 1 => by
    unfold allWays
    refine List.pairwise_flatMap.mpr ⟨fun row _ => ?_, (allWays_nodup n).imp fun {a b} hab x hx y hy e => ?_⟩
    · refine List.pairwise_cons.mpr ⟨fun y hy e => ?_, List.pairwise_singleton _ _⟩
      rw [List.mem_singleton.mp hy] at e
      have := List.append_cancel_left e
      cases this
    · simp only [List.mem_cons, List.not_mem_nil, or_false] at hx hy
      rcases hx with rfl | rfl <;> rcases hy with rfl | rfl <;> exact hab (List.append_inj_left' e rfl)
theorem allStands_nodup (b : Board) : (allStands b).Nodup := by
  unfold allStands
  refine List.pairwise_flatMap.mpr ⟨fun own _ => ?_, List.nodup_range.imp fun {x y} hxy s hs t ht e => ?_⟩
  · refine List.pairwise_flatMap.mpr ⟨fun last _ => ?_, (List.nodup_range.sublist List.filter_sublist).imp fun {x y} hxy s hs t ht e => ?_⟩
    · refine List.pairwise_cons.mpr ⟨fun y hy e => ?_, List.pairwise_singleton _ _⟩
      rw [List.mem_singleton.mp hy] at e
      cases e
    · simp only [List.mem_cons, List.not_mem_nil, or_false] at hs ht
      rcases hs with rfl | rfl <;> rcases ht with rfl | rfl <;> exact hxy (congrArg Stand.last e)
  · obtain ⟨l1, _, h1⟩ := List.mem_flatMap.mp hs
    obtain ⟨l2, _, h2⟩ := List.mem_flatMap.mp ht
    simp only [List.mem_cons, List.not_mem_nil, or_false] at h1 h2
    rcases h1 with rfl | rfl <;> rcases h2 with rfl | rfl <;> exact hxy (congrArg Stand.own e)
theorem stories_nodup (b : Board) (row : List Nat) : (stories b row).Nodup := by
  unfold stories
  refine List.pairwise_flatMap.mpr ⟨fun ws _ => ?_, (allWays_nodup _).imp fun {x y} hxy s hs t ht e => ?_⟩
  · rw [List.pairwise_filterMap]
    refine (allStands_nodup _).imp fun {x y} hxy s hs t ht e => ?_
    rw [Option.map_eq_some_iff] at hs ht
    obtain ⟨z, _, rfl⟩ := hs
    obtain ⟨u, _, rfl⟩ := ht
    exact hxy (congrArg (fun q : Story => q.2.1) e)
  · obtain ⟨s', _, h1⟩ := List.mem_filterMap.mp hs
    obtain ⟨t', _, h2⟩ := List.mem_filterMap.mp ht
    rw [Option.map_eq_some_iff] at h1 h2
    obtain ⟨z, _, rfl⟩ := h1
    obtain ⟨u, _, rfl⟩ := h2
    exact hxy (congrArg (fun q : Story => q.1) e)
theorem Sim.row (S : Sim b c f g T ε) {row : List Nat} (hr : ∀ x ∈ row, x < b.length) : (row.map f).map g = row ∧ ∀ x ∈ row.map f, x < c.length := by
  constructor
  · rw [List.map_map]
    conv => rhs; rw [← List.map_id row]
    exact List.map_congr_left fun x hx => S.gf x (hr x hx)
  · intro x hx
    obtain ⟨y, hy, rfl⟩ := List.mem_map.mp hx
    rw [S.len]
    exact S.ft y (hr y hy)
theorem Sim.count (S : Sim b c f g T ε) (hb : Valid b) (hc : Valid c) {row : List Nat} (hr : ∀ x ∈ row, x < b.length) : (stories c (row.map f)).length = (stories b row).length := by
  obtain ⟨h1, h2⟩ := S.row hr
  refine Nat.le_antisymm ?_ ?_
  · refine count_le (stories_nodup _ _) (mt g f ε c.length) (mt f g ε c.length) (fun t ht => ?_) fun t ht => ?_
    · exact S.symm.mt_mt hc ht
    · have := S.symm.story hc hb h2 ht
      rw [h1] at this
      exact this
  · exact count_le (stories_nodup _ _) (mt f g ε b.length) (mt g f ε b.length) (fun t ht => S.mt_mt hb ht) fun t ht => S.story hb hc hr ht
theorem mem_nextPins {b : Board} {row : List Nat} (hb : Valid b) {x : Nat} : x ∈ nextPins b row ↔ ∃ t ∈ stories b row, (Wm.beat (byWays b t.1) t.2.2).own = x := by
  unfold nextPins
  rw [List.mem_filter, List.mem_range, List.any_eq_true]
  constructor
  · rintro ⟨_, t, ht, e⟩
    exact ⟨t, ht, of_decide_eq_true e⟩
  · rintro ⟨t, ht, rfl⟩
    obtain ⟨e1, e2, e3⟩ := mem_stories.mp ht
    have l1 := like_byWays e1
    have := (beat_ok (l1.valid hb) (end_ok (l1.valid hb) (mem_allStands.mp e2) e3)).own
    rw [l1.len] at this
    exact ⟨this, t, ht, decide_eq_true rfl⟩
theorem Sim.next1 (S : Sim b c f g T ε) (hb : Valid b) (hc : Valid c) {row : List Nat} (hr : ∀ x ∈ row, x < b.length) {x : Nat} (hx : x ∈ nextPins b row) : f x ∈ nextPins c (row.map f) := by
  obtain ⟨t, ht, e⟩ := (mem_nextPins hb).mp hx
  refine (mem_nextPins hc).mpr ⟨_, S.story hb hc hr ht, ?_⟩
  obtain ⟨e1, e2, e3⟩ := mem_stories.mp ht
  have l1 := like_byWays e1
  have l2 : Like c (byWays c (mw g ε b.length t.1)) := like_byWays (by rw [mw_length, S.len])
  have he := end_ok (l1.valid hb) (mem_allStands.mp e2) e3
  have ho := he.own
  rw [l1.len] at ho
  have := (S.ways e1).beat (l1.valid hb) (l2.valid hc) he (S.wayOk e1 ho)
  show (Wm.beat (byWays c (mw g ε b.length t.1)) (pm f t.2.2)).own = f x
  rw [this, ← e]
  rfl
theorem Sim.next (S : Sim b c f g T ε) (hb : Valid b) (hc : Valid c) {row : List Nat} (hr : ∀ x ∈ row, x < b.length) (x : Nat) : x ∈ nextPins c (row.map f) ↔ x ∈ (nextPins b row).map f := by
  obtain ⟨h1, h2⟩ := S.row hr
  rw [List.mem_map]
  constructor
  · intro h
    have h3 := S.symm.next1 hc hb h2 h
    rw [h1] at h3
    have hlt : x < c.length := by
      unfold nextPins at h
      exact List.mem_range.mp (List.mem_filter.mp h).1
    exact ⟨g x, h3, S.fg x (by rw [← S.len]; exact hlt)⟩
  · rintro ⟨y, hy, rfl⟩
    exact S.next1 hb hc hr hy
theorem sureAt_iff {ts : List Story} (h : ts ≠ []) {i : Nat} {w : Way} : sureAt ts i = some w ↔ ∀ t ∈ ts, t.1[i]? = some w := by
  cases ts with
  | nil => exact absurd rfl h
  | cons t ts =>
    unfold sureAt
    simp only
    constructor
    · intro e
      split at e
      · rename_i hall
        intro u hu
        rcases List.mem_cons.mp hu with rfl | hu
        · exact e
        · rw [of_decide_eq_true (List.all_eq_true.mp hall u hu)]; exact e
      · cases e
    · intro hall
      rw [if_pos, hall t List.mem_cons_self]
      exact List.all_eq_true.mpr fun u hu => decide_eq_true ((hall u (List.mem_cons_of_mem _ hu)).trans (hall t List.mem_cons_self).symm)
theorem sure_eq (b : Board) (row : List Nat) : sure b row = if stories b row = [] then none else some ((List.range b.length).map (sureAt (stories b row))) := by
  unfold sure
  cases stories b row with
  | nil => rfl
  | cons t ts => rfl
theorem Sim.sure1 (S : Sim b c f g T ε) (hb : Valid b) (hc : Valid c) {row : List Nat} (hr : ∀ x ∈ row, x < b.length) (hne : stories b row ≠ []) {i : Nat} (hi : i < b.length) : sureAt (stories c (row.map f)) (f i) = (sureAt (stories b row) i).map (fw ε) := by
  obtain ⟨h1, h2⟩ := S.row hr
  have hne2 : stories c (row.map f) ≠ [] := fun e => hne (List.length_eq_zero_iff.mp (by rw [← S.count hb hc hr, e]; rfl))
  have key : ∀ w, sureAt (stories c (row.map f)) (f i) = some (fw ε w) ↔ sureAt (stories b row) i = some w := fun w => by
    rw [sureAt_iff hne2, sureAt_iff hne]
    constructor
    · intro h t ht
      have q := h _ (S.story hb hc hr ht)
      have e1 := (mem_stories.mp ht).1
      change (mw g ε b.length t.1)[f i]? = _ at q
      rw [mw_at (S.ft i hi), S.gf i hi] at q
      have q2 := congrArg (fw ε) (Option.some.inj q)
      rw [fw_fw, fw_fw] at q2
      rw [List.getElem?_eq_getElem (by omega), ← q2, List.getD_eq_getElem?_getD, List.getElem?_eq_getElem (by omega)]
      rfl
    · intro h t ht
      have q0 := S.symm.story hc hb h2 ht
      rw [h1] at q0
      have q := h _ q0
      have e1 := (mem_stories.mp ht).1
      change (mw f ε c.length t.1)[i]? = _ at q
      rw [mw_at (by rw [S.len]; exact hi)] at q
      have q2 := congrArg (fw ε) (Option.some.inj q)
      rw [fw_fw] at q2
      have hfi : f i < t.1.length := by rw [e1, S.len]; exact S.ft i hi
      rw [List.getElem?_eq_getElem hfi, ← q2, List.getD_eq_getElem?_getD, List.getElem?_eq_getElem hfi]
      rfl
  cases h : sureAt (stories b row) i with
  | some w => exact (key w).mpr h
  | none =>
    cases h3 : sureAt (stories c (row.map f)) (f i) with
    | none => rfl
    | some w =>
      have := (key (fw ε w)).mp (by rw [fw_fw]; exact h3)
      rw [h] at this
      cases this
end Wm
end
section
set_option autoImplicit false
/-! WmG: what the law k87 asks, plainly -/
namespace Wm
def mir (d : Dir) : Dir := (-d.1, d.2)
theorem mirrored_length (b : Board) : (mirrored b).length = b.length := by unfold mirrored; rw [List.length_map]
theorem mirrored_at {b : Board} {i : Nat} (hi : i < b.length) : pin (mirrored b) i = ⟨99 - (pin b i).x, (pin b i).y, (pin b i).way.flip⟩ := by
  unfold mirrored pin
  rw [List.getD_eq_getElem?_getD, List.getD_eq_getElem?_getD, List.getElem?_map, List.getElem?_eq_getElem hi]
  rfl
theorem sim_mirror (b : Board) : Sim b (mirrored b) id id mir (-1) where
  len := mirrored_length b
  ft i hi := hi
  gt i hi := hi
  fg i _ := rfl
  gf i _ := rfl
  dir i j hi hj := by
    unfold between mir
    simp only [id]
    rw [mirrored_at hi, mirrored_at hj]
    refine Prod.ext ?_ ?_ <;> simp only <;> omega
  neg d := by unfold mir neg; refine Prod.ext ?_ ?_ <;> simp only <;> omega
  crs a d := by
    unfold cross mir
    simp only
    rw [Int.neg_mul, Int.mul_neg]
    omega
  eps := .inr rfl
  inv d := by unfold mir; refine Prod.ext ?_ ?_ <;> simp only <;> omega
theorem Sim.valid {b c : Board} {f g : Nat → Nat} {T : Dir → Dir} {ε : Int} (S : Sim b c f g T ε) (hb : Valid b) (hp : ∀ p ∈ c, 0 ≤ p.x ∧ p.x ≤ 99 ∧ 0 ≤ p.y ∧ p.y ≤ 99) : Valid c where
  few := by rw [S.len]; exact hb.few
  most := by rw [S.len]; exact hb.most
  place := hp
  apart i j k l h1 h2 h3 h4 h5 := by
    rw [S.len] at h2 h4
    have e : ∀ x y, x < b.length → y < b.length → between c x y = T (between b (g x) (g y)) := fun x y hx hy => by
      have := S.dir (g x) (g y) (S.gt x hx) (S.gt y hy)
      rwa [S.fg x hx, S.fg y hy] at this
    have gi : ∀ x y, x < b.length → y < b.length → g x = g y → x = y := fun x y hx hy h => by rw [← S.fg x hx, ← S.fg y hy, h]
    rw [e i j (by omega) h2, e k l (by omega) h4, S.crs]
    have := hb.two (S.gt i (by omega)) (S.gt j h2) (S.gt k (by omega)) (S.gt l h4) (fun z => by have := gi i j (by omega) h2 z; omega) (fun z => by have := gi k l (by omega) h4 z; omega) (fun z => by have q1 := gi i k (by omega) (by omega) z.1; have q2 := gi j l h2 h4 z.2; omega) (fun z => by have q1 := gi i l (by omega) h4 z.1; have q2 := gi j k h2 (by omega) z.2; omega)
    rcases S.eps with q | q <;> rw [q] <;> omega
theorem mirrored_valid {b : Board} (hb : Valid b) : Valid (mirrored b) := (sim_mirror b).valid hb fun p hp => by
  unfold mirrored at hp
  obtain ⟨q, hq, rfl⟩ := List.mem_map.mp hp
  have := hb.place q hq
  simp only
  omega
/-! ### sure ways, as a row -/
theorem Sim.sure0 {b c : Board} {f g : Nat → Nat} {T : Dir → Dir} {ε : Int} (S : Sim b c f g T ε) (hb : Valid b) (hc : Valid c) {row : List Nat} (hr : ∀ x ∈ row, x < b.length) : stories c (row.map f) = [] ↔ stories b row = [] := by
  have := S.count hb hc hr
  constructor
  · intro e; rw [e] at this; exact List.length_eq_zero_iff.mp this.symm
  · intro e; rw [e] at this; exact List.length_eq_zero_iff.mp this
theorem mirror_sure {b : Board} (hb : Valid b) {row : List Nat} (hr : ∀ x ∈ row, x < b.length) : sure (mirrored b) row = (sure b row).map fun l => l.map fun o => o.map Way.flip := by
  have S := sim_mirror b
  have hc := mirrored_valid hb
  have h0 := S.sure0 hb hc hr
  rw [List.map_id] at h0
  rw [sure_eq, sure_eq]
  by_cases h : stories b row = []
  · rw [if_pos h, if_pos (h0.mpr h)]; rfl
  · rw [if_neg h, if_neg (fun e => h (h0.mp e)), mirrored_length]
    refine congrArg some ?_
    show _ = List.map (fun o => Option.map Way.flip o) _
    rw [List.map_map]
    refine List.map_congr_left fun i hi => ?_
    have := S.sure1 hb hc hr h (List.mem_range.mp hi)
    rw [List.map_id] at this
    exact this
theorem mirror_count {b : Board} (hb : Valid b) {row : List Nat} (hr : ∀ x ∈ row, x < b.length) : (stories (mirrored b) row).length = (stories b row).length := by
  have := (sim_mirror b).count hb (mirrored_valid hb) hr
  rwa [List.map_id] at this
theorem rising_eq : ∀ {l m : List Nat}, l.Pairwise (· < ·) → m.Pairwise (· < ·) → (∀ k, k ∈ l ↔ k ∈ m) → l = m
  | [], [], _, _, _ => rfl
  | [], b :: m, _, _, h => by have := (h b).mpr List.mem_cons_self; cases this
  | a :: l, [], _, _, h => by have := (h a).mp List.mem_cons_self; cases this
  | a :: l, b :: m, hl, hm, h => by
    have ha := List.pairwise_cons.mp hl
    have hb := List.pairwise_cons.mp hm
    have e : a = b := by
      rcases List.mem_cons.mp ((h a).mp List.mem_cons_self) with e | e
      · exact e
      · rcases List.mem_cons.mp ((h b).mpr List.mem_cons_self) with e2 | e2
        · exact e2.symm
        · have := ha.1 b e2; have := hb.1 a e; omega
    subst e
    rw [rising_eq ha.2 hb.2 fun k => ?_]
    constructor
    · intro hk
      rcases List.mem_cons.mp ((h k).mp (List.mem_cons_of_mem _ hk)) with e | e
      · have := ha.1 k hk; omega
      · exact e
    · intro hk
      rcases List.mem_cons.mp ((h k).mpr (List.mem_cons_of_mem _ hk)) with e | e
      · have := hb.1 k hk; omega
      · exact e
theorem next_rises (b : Board) (row : List Nat) : (nextPins b row).Pairwise (· < ·) := by
  unfold nextPins
  exact List.Pairwise.filter _ List.pairwise_lt_range
theorem mirror_next {b : Board} (hb : Valid b) {row : List Nat} (hr : ∀ x ∈ row, x < b.length) : nextPins (mirrored b) row = nextPins b row := by
  refine rising_eq (next_rises _ _) (next_rises _ _) fun k => ?_
  have := (sim_mirror b).next hb (mirrored_valid hb) hr k
  rw [List.map_id, List.map_id] at this
  exact this
/-! ### the board's own ways turn nothing -/
theorem byWays_like {b c : Board} (h : Like b c) (ws : List Way) : byWays c ws = byWays b ws := by
  unfold byWays
  apply List.ext_getElem?
  intro i
  rw [List.getElem?_map, List.getElem?_map]
  by_cases hi : i < b.length ∧ i < ws.length
  · have e1 : (b.zip ws)[i]? = some (b[i], ws[i]) := List.getElem?_zip_eq_some.mpr ⟨List.getElem?_eq_getElem hi.1, List.getElem?_eq_getElem hi.2⟩
    have hc : i < c.length := by rw [h.len]; exact hi.1
    have e2 : (c.zip ws)[i]? = some (c[i], ws[i]) := List.getElem?_zip_eq_some.mpr ⟨List.getElem?_eq_getElem hc, List.getElem?_eq_getElem hi.2⟩
    rw [e1, e2]
    have q := h.spot i hi.1
    unfold pin at q
    rw [List.getD_eq_getElem?_getD, List.getD_eq_getElem?_getD, List.getElem?_eq_getElem hi.1, List.getElem?_eq_getElem hc] at q
    simp only [Option.getD_some] at q
    show some _ = some _
    simp only [q.1, q.2]
  · have e1 : (b.zip ws)[i]? = none := List.getElem?_eq_none (by rw [List.length_zip]; omega)
    have e2 : (c.zip ws)[i]? = none := List.getElem?_eq_none (by rw [List.length_zip, h.len]; omega)
    rw [e1, e2]
theorem stories_like {b c : Board} (h : Like b c) (row : List Nat) : stories c row = stories b row := by
  unfold stories
  rw [h.len]
  congr 1
  funext ws
  rw [byWays_like h]
theorem sure_like {b c : Board} (h : Like b c) (row : List Nat) : sure c row = sure b row := by rw [sure_eq, sure_eq, stories_like h, h.len]
/-! ### free pins -/
def flipAt (ws : List Way) (i : Nat) : List Way := ws.modify i Way.flip
theorem flipAt_length (ws : List Way) (i : Nat) : (flipAt ws i).length = ws.length := by unfold flipAt; rw [List.length_modify]
theorem flipAt_get (ws : List Way) (i j : Nat) : (flipAt ws i)[j]? = if i = j then ws[j]?.map Way.flip else ws[j]? := by
  unfold flipAt
  rw [List.getElem?_modify]
  split <;> simp
theorem flipAt_flipAt (ws : List Way) (i : Nat) : flipAt (flipAt ws i) i = ws := by
  apply List.ext_getElem?
  intro j
  rw [flipAt_get, flipAt_get]
  split
  · cases ws[j]? with
    | none => rfl
    | some w => show some _ = some _; rw [Way.flip_flip]
  · rfl
theorem free_end {b : Board} (hb : Valid b) {row : List Nat} (hr : ∀ x ∈ row, x < b.length) {i : Nat} (hi : i ∉ row.dropLast) {ws : List Way} (hl : ws.length = b.length) {s : Stand} (hs : StandOk b s) : endOf (byWays b (flipAt ws i)) s row = endOf (byWays b ws) s row := by
  have l1 := like_byWays hl
  have hl2 : (flipAt ws i).length = b.length := by rw [flipAt_length, hl]
  have l2 := like_byWays hl2
  refine end_ways (like_trans (like_symm l1) l2) (l1.valid hb) (l1.standOk hs) (by rw [l1.len]; exact hr) fun x hx hlt => ?_
  rw [l1.len] at hlt
  have hne : i ≠ x := fun e => hi (e ▸ hx)
  rw [way_byWays hlt hl2, way_byWays hlt hl, List.getD_eq_getElem?_getD, List.getD_eq_getElem?_getD, flipAt_get, if_neg hne]
theorem free_story {b : Board} (hb : Valid b) {row : List Nat} (hr : ∀ x ∈ row, x < b.length) {i : Nat} (hi : i ∉ row.dropLast) {t : Story} (ht : t ∈ stories b row) : (flipAt t.1 i, t.2) ∈ stories b row := by
  obtain ⟨h1, h2, h3⟩ := mem_stories.mp ht
  have l1 := like_byWays h1
  have hl2 : (flipAt t.1 i).length = b.length := by rw [flipAt_length, h1]
  have l2 := like_byWays hl2
  have hs : StandOk b t.2.1 := (like_symm l1).standOk (mem_allStands.mp h2)
  refine mem_stories.mpr ⟨hl2, mem_allStands.mpr (l2.standOk hs), ?_⟩
  show endOf (byWays b (flipAt t.1 i)) t.2.1 row = _
  rw [free_end hb hr hi h1 hs, h3]
theorem free_sure {b : Board} (hb : Valid b) {row : List Nat} (hr : ∀ x ∈ row, x < b.length) {i : Nat} (hi : i ∉ row.dropLast) (hne : stories b row ≠ []) (hlt : i < b.length) : sureAt (stories b row) i = none := by
  cases h : sureAt (stories b row) i with
  | none => rfl
  | some w =>
    rw [sureAt_iff hne] at h
    obtain ⟨t, ht⟩ := List.exists_mem_of_ne_nil _ hne
    have q1 := h t ht
    have q2 := h _ (free_story hb hr hi ht)
    change (flipAt t.1 i)[i]? = _ at q2
    rw [flipAt_get, if_pos rfl, q1] at q2
    have := Option.some.inj q2
    cases w <;> cases this
/-- a sum over all ways of what doesn't hang on some pins' ways -/
theorem sum_free (F : Nat → Bool) : ∀ (n : Nat) (h : List Way → Nat), (∀ ws i, ws.length = n → i < n → F i = true → h (flipAt ws i) = h ws) → 2 ^ ((List.range n).filter F).length ∣ ((allWays n).map h).sum
  | 0, h, _ => ⟨h [], by show ((allWays 0).map h).sum = 1 * h []; unfold allWays; simp⟩
  | n + 1, h, hf => by
    have e : ((allWays (n + 1)).map h).sum = ((allWays n).map fun row => h (row ++ [.left]) + h (row ++ [.right])).sum := by
      conv => lhs; unfold allWays
      rw [List.map_flatMap]
      generalize allWays n = L
      induction L with
      | nil => rfl
      | cons a L ih => rw [List.flatMap_cons, List.sum_append, ih, List.map_cons, List.sum_cons]; simp
    have hin : ∀ (w : Way) (row : List Way) (i : Nat), row.length = n → i < n → flipAt (row ++ [w]) i = flipAt row i ++ [w] := fun w row i hl hi => by
      apply List.ext_getElem?
      intro j
      rw [flipAt_get]
      have hfl := flipAt_length row i
      by_cases d : j < n
      · rw [List.getElem?_append_left (by omega), List.getElem?_append_left (by omega), flipAt_get]
      · rw [if_neg (by omega), List.getElem?_append_right (by omega), List.getElem?_append_right (by omega), hfl]
    rw [e, List.range_succ, List.filter_append, List.length_append]
    by_cases hF : F n = true
    · have e2 : ((allWays n).map fun row => h (row ++ [.left]) + h (row ++ [.right])).sum = 2 * ((allWays n).map fun row => h (row ++ [.left])).sum := by
        have : ∀ L : List (List Way), (∀ row ∈ L, row.length = n) → (L.map fun row => h (row ++ [.left]) + h (row ++ [.right])).sum = 2 * (L.map fun row => h (row ++ [.left])).sum := by
          intro L hL
          induction L with
          | nil => rfl
          | cons a L ih =>
            have h1 := hf (a ++ [.left]) n (by rw [List.length_append, hL a List.mem_cons_self]; rfl) (by omega) hF
            have h2 : flipAt (a ++ [Way.left]) n = a ++ [.right] := by
              apply List.ext_getElem?
              intro j
              rw [flipAt_get]
              have ha := hL a List.mem_cons_self
              by_cases c : n = j
              · subst c
                rw [if_pos rfl, List.getElem?_append_right (by omega), List.getElem?_append_right (by omega), ha, Nat.sub_self]
                rfl
              · rw [if_neg c]
                by_cases d : j < n
                · rw [List.getElem?_append_left (by omega), List.getElem?_append_left (by omega)]
                · rw [List.getElem?_eq_none (by rw [List.length_append]; show _ + 1 ≤ _; omega), List.getElem?_eq_none (by rw [List.length_append]; show _ + 1 ≤ _; omega)]
            rw [h2] at h1
            rw [List.map_cons, List.sum_cons, List.map_cons, List.sum_cons, ih fun row hr => hL row (List.mem_cons_of_mem _ hr), h1]
            omega
        exact this _ fun row hr => mem_allWays.mp hr
      rw [e2]
      obtain ⟨k, hk⟩ := sum_free F n (fun row => h (row ++ [.left])) fun ws i hl hi hFi => by
        have := hf (ws ++ [.left]) i (by rw [List.length_append, hl]; rfl) (by omega) hFi
        rw [hin _ _ _ hl hi] at this
        exact this
      rw [hk]
      refine ⟨k, ?_⟩
      rw [List.filter_cons_of_pos hF]
      show _ = 2 ^ (_ + 1) * k
      rw [Nat.pow_succ, Nat.mul_comm (2 ^ _) 2, Nat.mul_assoc]
    · rw [List.filter_cons_of_neg hF]
      show 2 ^ (_ + 0) ∣ _
      exact sum_free F n (fun row => h (row ++ [.left]) + h (row ++ [.right])) fun ws i hl hi hFi => by
        have h1 := hf (ws ++ [.left]) i (by rw [List.length_append, hl]; rfl) (by omega) hFi
        have h2 := hf (ws ++ [.right]) i (by rw [List.length_append, hl]; rfl) (by omega) hFi
        rw [hin _ _ _ hl hi] at h1 h2
        rw [h1, h2]
theorem free_count {b : Board} (hb : Valid b) {row : List Nat} (hr : ∀ x ∈ row, x < b.length) : 2 ^ ((List.range b.length).filter fun p => !decide (p ∈ row.dropLast)).length ∣ (stories b row).length := by
  have e : (stories b row).length = ((allWays b.length).map fun ws => ((allStands b).filter fun s => (endOf (byWays b ws) s row).isSome).length).sum := by
    unfold stories
    rw [List.length_flatMap]
    congr 1
    refine List.map_congr_left fun ws hw => ?_
    have hl := mem_allWays.mp hw
    have e2 : allStands (byWays b ws) = allStands b := by unfold allStands; rw [byWays_length hl]
    rw [e2]
    induction allStands b with
    | nil => rfl
    | cons s L ih =>
      rw [List.filterMap_cons, List.filter_cons]
      cases endOf (byWays b ws) s row with
      | none => simpa using ih
      | some z => simpa using ih
  rw [e]
  refine sum_free _ b.length _ fun ws i hl hi hF => ?_
  congr 1
  refine List.filter_congr fun s hs => ?_
  rw [free_end hb hr (by simpa using hF) hl (mem_allStands.mp hs)]
end Wm
end
section
set_option autoImplicit false
/-! WmH: the pins by other numbers -/
namespace Wm
/-- names drawn: what is left, the names -/
def nameRun (p : Pen) (n : Nat) : Nat → Pen × List Nat × List Nat
  | 0 => (p, List.range n, [])
  | k + 1 =>
    let r := nameRun p n k
    let i := drawN r.1 r.2.1.length
    (drawP r.1 r.2.1.length, r.2.1.eraseIdx i, r.2.2 ++ [r.2.1.getD i 0])
theorem nameRun_ok {p : Pen} (hp : PenOk p) (n : Nat) : ∀ k, k ≤ n → PenOk (nameRun p n k).1 ∧ (nameRun p n k).2.1.length = n - k ∧ (nameRun p n k).2.2.length = k ∧ ((nameRun p n k).2.2 ++ (nameRun p n k).2.1).Perm (List.range n)
  | 0, _ => ⟨hp, List.length_range, rfl, by show ([] ++ List.range n).Perm _; rw [List.nil_append]⟩
  | k + 1, h => by
    obtain ⟨h1, h2, h3, h4⟩ := nameRun_ok hp n k (by omega)
    have hpos : 0 < (nameRun p n k).2.1.length := by omega
    have hi := drawN_lt (nameRun p n k).1 hpos
    unfold nameRun
    simp only
    generalize nameRun p n k = r at *
    obtain ⟨q, left, names⟩ := r
    simp only at *
    generalize drawN q left.length = i at *
    refine ⟨drawP_ok h1 hpos, ?_, ?_, ?_⟩
    · rw [List.length_eraseIdx_of_lt hi]; omega
    · rw [List.length_append, h3]; rfl
    · refine List.Perm.trans ?_ h4
      rw [List.append_assoc]
      refine List.Perm.append_left _ ?_
      rw [List.getD_eq_getElem?_getD, List.getElem?_eq_getElem hi, List.eraseIdx_eq_take_drop_succ]
      show (left[i] :: (left.take i ++ left.drop (i + 1))).Perm left
      refine List.Perm.trans List.perm_middle.symm ?_
      rw [← List.drop_eq_getElem_cons hi, List.take_append_drop]
def namesOf (p : Pen) (n : Nat) : List Nat := (nameRun p n n).2.2
def namesPen (p : Pen) (n : Nat) : Pen := (nameRun p n n).1
theorem names_perm {p : Pen} (hp : PenOk p) (n : Nat) : (namesOf p n).Perm (List.range n) ∧ PenOk (namesPen p n) := by
  obtain ⟨h1, h2, h3, h4⟩ := nameRun_ok hp n n (Nat.le_refl n)
  have e : (nameRun p n n).2.1 = [] := List.length_eq_zero_iff.mp (by omega)
  rw [e, List.append_nil] at h4
  exact ⟨h4, h1⟩
def called (names : List Nat) (i : Nat) : Nat := names.getD i 0
def callOf (names : List Nat) (j : Nat) : Nat := names.idxOf j
def renamed (b : Board) (names : List Nat) : Board := (List.range b.length).map fun j => pin b (callOf names j)
section
variable {b : Board} {names : List Nat}
theorem called_get (h : names.Perm (List.range b.length)) {i : Nat} (hi : i < b.length) : names[i]? = some (called names i) ∧ called names i < b.length := by
  have hl : names.length = b.length := by rw [h.length_eq, List.length_range]
  have e : names[i]? = some (called names i) := by
    unfold called
    rw [List.getD_eq_getElem?_getD, List.getElem?_eq_getElem (by omega)]
    rfl
  exact ⟨e, List.mem_range.mp (h.mem_iff.mp (List.mem_of_getElem? e))⟩
theorem call_lt (h : names.Perm (List.range b.length)) {j : Nat} (hj : j < b.length) : callOf names j < b.length ∧ names[callOf names j]? = some j := by
  have hm : j ∈ names := h.mem_iff.mpr (List.mem_range.mpr hj)
  have h1 := List.idxOf_lt_length_of_mem hm
  have hl : names.length = b.length := by rw [h.length_eq, List.length_range]
  refine ⟨by unfold callOf; omega, ?_⟩
  unfold callOf
  rw [List.getElem?_eq_getElem h1, List.getElem_idxOf]
theorem renamed_length : (renamed b names).length = b.length := by unfold renamed; rw [List.length_map, List.length_range]
theorem renamed_at {j : Nat} (hj : j < b.length) : pin (renamed b names) j = pin b (callOf names j) := by
  conv => lhs; unfold pin renamed
  rw [List.getD_eq_getElem?_getD, List.getElem?_map, List.getElem?_range hj]
  rfl
theorem call_called (h : names.Perm (List.range b.length)) {i : Nat} (hi : i < b.length) : callOf names (called names i) = i := by
  have hn : names.Nodup := h.nodup_iff.mpr List.nodup_range
  have hl : names.length = b.length := by rw [h.length_eq, List.length_range]
  have e := (called_get h hi).1
  obtain ⟨h1, h2⟩ := List.getElem?_eq_some_iff.mp e
  unfold callOf
  rw [← h2]
  exact hn.idxOf_getElem i h1
theorem called_call (h : names.Perm (List.range b.length)) {j : Nat} (hj : j < b.length) : called names (callOf names j) = j := by
  have e := (call_lt h hj).2
  have e2 := (called_get h (call_lt h hj).1).1
  rw [e] at e2
  exact (Option.some.inj e2).symm
theorem sim_renamed (h : names.Perm (List.range b.length)) : Sim b (renamed b names) (called names) (callOf names) id 1 where
  len := renamed_length
  ft i hi := (called_get h hi).2
  gt j hj := (call_lt h hj).1
  fg j hj := called_call h hj
  gf i hi := call_called h hi
  dir i j hi hj := by
    unfold between
    rw [renamed_at (called_get h hi).2, renamed_at (called_get h hj).2, call_called h hi, call_called h hj]
    rfl
  neg _ := rfl
  crs a d := by rw [Int.one_mul]; rfl
  eps := .inl rfl
  inv _ := rfl
theorem renamed_valid (hb : Valid b) (h : names.Perm (List.range b.length)) : Valid (renamed b names) := (sim_renamed h).valid hb fun p hp => by
  unfold renamed at hp
  obtain ⟨j, hj, rfl⟩ := List.mem_map.mp hp
  exact hb.place _ (pin_mem (call_lt h (List.mem_range.mp hj)).1)
theorem renamed_count (hb : Valid b) (h : names.Perm (List.range b.length)) {row : List Nat} (hr : ∀ x ∈ row, x < b.length) : (stories (renamed b names) (row.map (called names))).length = (stories b row).length :=
  (sim_renamed h).count hb (renamed_valid hb h) hr
theorem renamed_next (hb : Valid b) (h : names.Perm (List.range b.length)) {row : List Nat} (hr : ∀ x ∈ row, x < b.length) : (nextPins (renamed b names) (row.map (called names))).Perm ((nextPins b row).map (called names)) := by
  have S := sim_renamed h
  refine (List.perm_ext_iff_of_nodup ((next_rises _ _).imp Nat.ne_of_lt) ?_).mpr fun x => S.next hb (renamed_valid hb h) hr x
  rw [List.Nodup, List.pairwise_map]
  refine List.Pairwise.imp_of_mem (fun {x y} hx hy hxy e => ?_) (next_rises b row)
  have hx' : x < b.length := by unfold nextPins at hx; exact List.mem_range.mp (List.mem_filter.mp hx).1
  have hy' : y < b.length := by unfold nextPins at hy; exact List.mem_range.mp (List.mem_filter.mp hy).1
  have := S.inj hx' hy' e
  omega
theorem renamed_sure (hb : Valid b) (h : names.Perm (List.range b.length)) {row : List Nat} (hr : ∀ x ∈ row, x < b.length) : (sure b row = none ∧ sure (renamed b names) (row.map (called names)) = none) ∨ ∃ l m, sure b row = some l ∧ sure (renamed b names) (row.map (called names)) = some m ∧ l.length = b.length ∧ m.length = b.length ∧ (List.range b.length).map (fun i => m.getD (called names i) none) = l := by
  have S := sim_renamed h
  have hc := renamed_valid hb h
  have h0 := S.sure0 hb hc hr
  rw [sure_eq, sure_eq]
  by_cases e : stories b row = []
  · exact .inl ⟨by rw [if_pos e], by rw [if_pos (h0.mpr e)]⟩
  · refine .inr ⟨_, _, by rw [if_neg e], by rw [if_neg fun z => e (h0.mp z)], by rw [List.length_map, List.length_range], by rw [List.length_map, List.length_range, renamed_length], ?_⟩
    refine List.map_congr_left fun i hi => ?_
    have hi' := List.mem_range.mp hi
    have hf := (called_get h hi').2
    rw [List.getD_eq_getElem?_getD, List.getElem?_map, renamed_length, List.getElem?_range hf]
    show sureAt _ _ = _
    rw [S.sure1 hb hc hr e hi']
    cases sureAt (stories b row) i with
    | none => rfl
    | some w => rfl
end
end Wm
end
section
set_option Elab.async false
set_option linter.all false
set_option autoImplicit false
set_option maxRecDepth 100000
set_option maxHeartbeats 4000000
/-! WpU: new lists of any making; pop; more words -/
namespace Wp
open PySem L2 Wm
section
variable {K : PySem.W.Frag} {ps : List Addr} {G : Env} {M M1 M2 : List Mu} {te to ta : TE} {u u1 u2 : TS} {F : Oc → Prop}
/-- an expression that makes a new list -/
def EvNew (K : PySem.W.Frag) (ps : List Addr) (te : TE) (G : Env) (M : List Mu) (ds : List PyData) (M1 : List Mu) : Prop :=
  ∀ (σ : L2.St) (H0 H : Hp) (Q : VK), Same H0 H → EnvOk K H0 σ G → MOk K ps M H0 H → (∀ (p : Addr) (xs : List V) (H0' H' : Hp), Gr (Wn ps) H0 H H0' H' → MOk K ps M1 H0' H' → DqAll K H0' xs ds → H' p = none → Q (.ref p) (upd H' p (.lst xs))) → te σ H Q
theorem new_lst {t : TA} {ds : List PyData} (h : EaG K ps t G M (ds.map .dat) M1) (hl : ds.length ≤ big) : EvNew K ps (tLst t) G M ds M1 := fun σ H0 H Q s e m q =>
  h σ H0 H _ s e m fun vs H1 H1' g m1 d => ⟨by rw [d.dat.length]; exact big_le hl, fun p hp => q p vs H1 H1' g m1 d.dat hp⟩
theorem new_lstRg {n : Nat} (h : EvG K ps ta G M (.dat (.int (n : Int))) M1) (hn : n ≤ big) : EvNew K ps (tLstRg (tRg1 ta)) G M ((List.range n).map eN) M1 := fun σ H0 H Q s e m q =>
  h σ H0 H _ s e m fun v H1 H1' g1 m1 d1 => by
    cases d1
    exact ⟨_, rfl, rg_ok hn, fun p hp => q p _ H1 H1' g1 m1 (rgV_dat n) hp⟩
theorem new_call {t : TA} {E : XK} {R : List RD → List PyData → Prop} {rs : List RD} {ds : List PyData} (h : EaG K ps t G M rs M1) (hR : R rs ds) : EvNew K ps (tCall (spN K R) [] E t) G M ds M1 := fun σ H0 H Q s e m q =>
  h σ H0 H _ s e m fun vs H1 H1' g m1 d => ⟨H1, rs, ds, g.sub, by rw [List.append_nil]; exact d, hR, fun p H2 H2' xs g2 hp hx =>
    q p xs H2 H2' (g.trans g2.pure) (m1.keep g2 fun _ _ z => z) hx hp⟩
/-- x = that; u1 fills it; u2 has it fixed -/
theorem sv_newF {i : Nat} {ds : List PyData} (h : EvNew K ps te G M ds M1)
    (k : ∀ p, SvP K (ps ++ [p]) u1 (G.set i (some (.raw (.ref p)))) (M1 ++ [.lst ds]) (frzF K ps i p u2 F)) : SvP K ps (tSeq (tAsg te (gName i)) (tSeq u1 u2)) G M F := fun D σ H0 H s e m q =>
  h σ H0 H _ s e m fun p vs H1 H1' g m1 d hp => by
    refine k p { D with nx := u2 D } _ H1 (upd H1' p (.lst vs)) (Gr.newM (W := Pure) g.sub hp).sub ((e.mono g.lo).set i rfl) (mok_snoc (H1 := H1) m1 g.sub hp ⟨vs, upd_same, d⟩) fun o fo => ?_
    cases o with
    | nx G2 M2 =>
      obtain ⟨M', es, rfl, hi, hu⟩ := fo
      intro σ2 H2 H2' g2 e2 m2
      obtain ⟨⟨xs, a, b⟩, h0, hps⟩ := mok_last m2
      have s1 : Same H2 (upd H2 p (.lst xs)) := fun z o e => by rw [upd_ne (ne_of_none e h0)]; exact e
      have gb := gr_back hp g2
      have nD : ∀ a, H1' a ≠ none → a ≠ p := fun a n z => n (by rw [z]; exact hp)
      obtain ⟨v, hv, rv⟩ := e2.at' i _ hi
      have rv' : v = .ref p := rv
      subst rv'
      have e1 : EnvOk K (upd H2 p (.lst xs)) σ2 (G2.set i (some (.dat (.list es)))) := by
        have e2 := (e2.mono s1).set (v := .ref p) (r := .dat (.list es)) i (Dq.lst upd_same (DqAll.mono s1 _ _ b))
        have e3 : σ2.set i (some (.ref p)) = σ2 := by
          apply List.ext_getElem?
          intro k
          by_cases hk : i = k
          · subst hk
            rw [List.getElem?_set_self (List.getElem?_eq_some_iff.mp hv).1, hv]
          · rw [List.getElem?_set_ne hk]
        rw [e3] at e2
        exact e2
      have gg : Gr (Wn ps) H1 H1' (upd H2 p (.lst xs)) H2' := by
        refine ⟨gb.lo.trans s1, gb.hi, fun a e n => ?_, gb.th, fun z o e => ?_⟩
        · rw [upd_ne (nD a n)]; exact gb.fr a e n
        · by_cases hz : z = p
          · subst hz; rw [upd_same] at e; rw [a]; exact e
          · rw [upd_ne hz] at e; exact g2.sub z o e
      refine hu D σ2 _ H2' gg.sub e1 ?_ fun o fo => (q o fo).after (g.trans gg)
      have mh := mok_head m2
      refine ⟨mh.nd, mh.len, fun q hq => ⟨?_, (mh.out q hq).2⟩, fun j q y e1 e2 => (mh.at' j q y e1 e2).keep s1 fun _ h => h⟩
      have hne : q ≠ p := fun e => hps (e ▸ hq)
      rw [upd_ne hne]
      exact (mh.out q hq).1
    | rt r M2 =>
      cases r with
      | dat d =>
        obtain ⟨M', x, rfl, f⟩ := fo
        exact fun v H2 H2' g2 m2 r => (q _ f) v H2 H2' (g.trans (gr_back hp g2)) (mok_head m2) r
      | _ => exact fo.elim
    | bk _ _ => exact fo.elim
    | ct _ _ => exact fo.elim
/-- x = that, owned to the end -/
theorem sv_newB {i : Nat} {ds : List PyData} (h : EvNew K ps te G M ds M1)
    (k : ∀ p, SvP K (ps ++ [p]) u (G.set i (some (.raw (.ref p)))) (M1 ++ [.lst ds]) (backG p F)) : SvP K ps (tSeq (tAsg te (gName i)) u) G M F := fun D σ H0 H s e m q =>
  h σ H0 H _ s e m fun p vs H1 H1' g m1 d hp =>
    k p D _ H1 (upd H1' p (.lst vs)) (Gr.newM (W := Pure) g.sub hp).sub ((e.mono g.lo).set i rfl) (mok_snoc (H1 := H1) m1 g.sub hp ⟨vs, upd_same, d⟩) (cont_backG (H1 := H1) hp fun o fo => (q o fo).after g)
theorem seq_at {k n : Nat} (h : k < n) : seqIndex? (k : Int) n = some k := by
  unfold seqIndex?
  simp
  omega
theorem DqAll.eraseIdx {H : Hp} : ∀ {ds : List PyData} {vs : List V} (_ : DqAll K H vs ds) (k : Nat), DqAll K H (vs.eraseIdx k) (ds.eraseIdx k)
  | [], _, h, _ => by cases h; exact .nil
  | _ :: _, _, h, 0 => by
    cases h with
    | cons a b => exact b
  | _ :: _, _, h, k + 1 => by
    cases h with
    | cons a b => exact .cons a (DqAll.eraseIdx b k)
/-- xs.pop(i) of an owned list -/
theorem ev_popOwn {j k : Nat} {p : Addr} {ds : List PyData} {d : PyData} (ho : EvG K ps to G M (.raw (.ref p)) M) (hi : EvG K ps te G M (.dat (eN k)) M1) (hp : ps[j]? = some p) (hM : M[j]? = some (.lst ds)) (hM1 : M1[j]? = some (.lst ds)) (hk : ds[k]? = some d) (hbig : k ≤ big) :
    EvG K ps (tBM K "list" rPopAt to (tCons te tNil)) G M (.dat d) (M1.set j (.lst (ds.eraseIdx k))) := fun σ H0 H Q s e m q =>
  ho σ H0 H _ s e m fun v H1 H1' g1 m1 d1 => by
    have d1' : v = .ref p := d1
    subst d1'
    obtain ⟨xs, a, b⟩ := m1.at' j p _ hp hM
    refine ⟨.inl ⟨rfl, _, SqL.of a⟩, hi σ H1 H1' _ g1.sub (e.mono g1.lo) m1 fun y H2 H2' g2 m2 d2 => ?_⟩
    cases d2
    obtain ⟨ys, a2, b2⟩ := m2.at' j p _ hp hM1
    obtain ⟨z, hz, dz⟩ := b2.at hk
    have hlt := (List.getElem?_eq_some_iff.mp hk).1
    have hw : Wn ps p := List.mem_of_getElem? hp
    unfold big at hbig
    refine ⟨p, ys, (k : Int), k, z, rfl, rfl, a2, by omega, by omega, seq_at (by rw [b2.length]; exact hlt), hz, ?_⟩
    have g3 : Gr (Wn ps) H2 H2' H2 (upd H2' p (.lst (ys.eraseIdx k))) := Gr.put g2.sub hw (m2.out p hw).1
    exact q z H2 _ ((g1.trans g2).trans g3) (m2.put hp fun H' h => ⟨_, h, b2.eraseIdx k⟩) dz
theorem sv_par3 {i j l : Nat} {t : TA} {r r' r'' : RD} (h : EaG K ps t G M [r, r', r''] M1) (f : F (.nx (((G.set i (some r)).set j (some r')).set l (some r'')) M1)) : SvP K ps (tPar3 i j l t) G M F := fun D σ H0 H s e m q =>
  h σ H0 H _ s e m fun vs H1 H1' gr m1 d => by
    cases d with
    | cons a d =>
      cases d with
      | cons b d =>
        cases d with
        | cons c d =>
          cases d
          exact ⟨_, _, _, rfl, q _ f _ H1 H1' gr ((((e.mono gr.lo).set i a).set j b).set l c) m1⟩
theorem y_par3 {i j l : Nat} {t : TA} {r r' r'' : RD} (h : EaG K ps t G M [r, r', r''] M) (f : SvP K ps u (((G.set i (some r)).set j (some r')).set l (some r'')) M F) : SvP K ps (tSeq (tPar3 i j l t) u) G M F := sv_seq (sv_par3 h f)
end
def dNeg : RD → RD → Prop
  | .dat (.int i), d => d = .dat (.int (-i))
  | _, _ => False
theorem oD_neg {X : Cx} : UnR X (unaryOp .USub) (rD1 X.K dNeg) := by
  intro pins s σ H x v Q I rx h
  obtain ⟨H0, a, d, s0, ha, hf, q⟩ := h
  unfold dNeg at hf
  split at hf
  · subst hf
    cases ha
    exact un_neg pins s σ H _ v Q I rx ⟨_, rfl, q.now s0 (Dq.int _)⟩
  · exact hf.elim
/-! ### equal, unequal data -/
theorem dEq_same {d : PyData} (h : SeqAt.shaped d = true) : dEq false (.dat d) (.dat d) (.dat (.bool true)) := ⟨by rw [PySem.SeqAt.eqv_refl d (SeqAt.canLay_of_shaped h)]; rfl, h, h⟩
theorem dNe_same {d : PyData} (h : SeqAt.shaped d = true) : dEq true (.dat d) (.dat d) (.dat (.bool false)) := ⟨by rw [PySem.SeqAt.eqv_refl d (SeqAt.canLay_of_shaped h)]; rfl, h, h⟩
theorem shaped_tup {α : Type} (f : α → PyData) (n : Nat) (h : ∀ a, (f a).canLay0 = true ∧ (f a).depth ≤ n) (hn : n < 64) (xs : List α) : SeqAt.shaped (.tuple (xs.map f)) = true := by
  unfold SeqAt.shaped
  simp only [PyData.canLay0, PyData.depth]
  rw [lay_map f (fun a => (h a).1), Bool.true_and]
  have := dep_map f n (fun a => (h a).2) xs
  exact decide_eq_true (by omega)
theorem ok_N (n : Nat) : (eN n).canLay0 = true ∧ (eN n).depth ≤ 0 := ⟨rfl, Nat.le_refl _⟩
theorem shaped_R (r : List Nat) : SeqAt.shaped (eR r) = true := shaped_tup eN 0 ok_N (by decide) r
theorem ok_WO (o : Option Way) : (eWO o).canLay0 = true ∧ (eWO o).depth ≤ 0 := by
  cases o with
  | none => exact ⟨rfl, Nat.le_refl _⟩
  | some w => exact ok_W w
theorem shaped_sure (o : Option (List (Option Way))) : SeqAt.shaped (eSure o) = true := by
  cases o with
  | none => rfl
  | some l => exact shaped_tup eWO 0 ok_WO (by decide) l
theorem dNe_bool (i j : Bool) : dEq true (.dat (.bool i)) (.dat (.bool j)) (.dat (.bool (!decide (i = j)))) := dNe_e i j
theorem cut_part {α : Type} (xs : List α) (a b : Nat) (h : a ≤ xs.length) (hb : b ≤ xs.length) : cutD xs (some (a : Int)) (some (b : Int)) = (xs.drop a).take (b - a) := by
  unfold cutD
  rw [HT.sIx_nat, HT.sIx_nat, show min a xs.length = a by omega, show min b xs.length = b by omega]
theorem cut_last {α : Type} (xs : List α) : cutD xs none (some (-1)) = xs.dropLast := by
  unfold cutD
  rw [HT.sIx_none, List.drop_zero, Nat.sub_zero, List.dropLast_eq_take]
  congr 1
  unfold HT.sIx
  simp
  omega
theorem dIs_sure (neg : Bool) (o : Option (List (Option Way))) : dIs neg (.dat (eSure o)) (.dat .none) (.dat (.bool (if neg then o.isSome else o.isNone))) := by cases o <;> cases neg <;> rfl
/-! ### a method that reads -/
section
variable {X : Cx} {K : PySem.W.Frag}
theorem bmK {T : String} {r : V → List V → Hp → VK → Prop} {to : TE} {t : TA} {e : Expr} (h : PE X e (tBM X.K T r to t)) (ek : X.K = K := by rfl) : PE X e (tBM K T r to t) := ek ▸ h
def rDm (K : PySem.W.Frag) (R : RD → List RD → RD → Prop) : V → List V → Hp → VK → Prop := fun x xs H Q => ∃ H0 a rs d, Same H0 H ∧ Rv K H0 x a ∧ RvAll K H0 xs rs ∧ R a rs d ∧ Out K H0 H d Q
theorem mK {id : String} {R : RD → List RD → RD → Prop} (h : MtR X id (rDm X.K R)) (ek : X.K = K := by rfl) : MtR X id (rDm K R) := ek ▸ h
def fIndex : RD → List RD → RD → Prop
  | .dat (.list ds), [.dat y], d => ∃ (j : Nat) (z : PyData), ds[j]? = some z ∧ PyData.eqv z y = true ∧ (∀ (m : Nat) (z' : PyData), m < j → ds[m]? = some z' → PyData.eqv z' y = false) ∧ SeqAt.shaped (.list ds) = true ∧ SeqAt.shaped y = true ∧ d = .dat (eN j)
  | _, _, _ => False
theorem mD_index (hu : X.A.units + 65 < cLine) : MtR X "list.index" (rDm X.K fIndex) := by
  intro pins s σ H x xs v us Q I rx rxs h
  obtain ⟨H0, a, rs, d, s0, ha, hr, hf, q⟩ := h
  unfold fIndex at hf
  split at hf
  · obtain ⟨j, z, hz, he, hno, sl, sy, rfl⟩ := hf
    obtain ⟨y', rfl, dy⟩ := rv1 hr
    have da := Dq.mono s0 _ _ (show Dq X.K H0 x (.list _) from ha)
    cases ha with
    | lst a1 a2 => exact mt_indexD hu pins s σ H _ _ v us Q I rx rxs ⟨_, _, _, _, j, z, rfl, rfl, da.dp, (Dq.mono s0 _ _ dy).dp, sl, sy, hz, he, hno, q.now s0 (Dq.int _)⟩
  · exact hf.elim
variable {ps : List Addr} {G : Env} {M : List Mu} {to : TE} {ta : TA}
theorem x_mth {R : RD → List RD → RD → Prop} {ds : List PyData} {rs : List RD} {d : RD} (ho : EvG K ps to G M (.dat (.list ds)) M) (ha : EaG K ps ta G M rs M) (h : R (.dat (.list ds)) rs d) : EvG K ps (tBM K "list" (rDm K R) to ta) G M d M := fun σ H0 H Q s e m q =>
  ho σ H0 H _ s e m fun v H1 H1' g1 m1 d1 => by
    cases d1 with
    | lst a b =>
      refine ⟨.inl ⟨rfl, _, SqL.of (g1.sub _ _ a)⟩, ha σ H1 H1' _ g1.sub (e.mono g1.lo) m1 fun xs H2 H2' g2 m2 d2 => ?_⟩
      exact ⟨H2, .dat (.list ds), rs, d, g2.sub, Rv.mono (r := .dat (.list ds)) g2.lo (Dq.lst a b), d2, h, out_at m2 fun v H3 H3' g3 m3 d3 => q v H3 H3' ((g1.trans g2).trans g3) m3 d3⟩
theorem index_nats (r : List Nat) {i x : Nat} (hn : r.Nodup) (hi : r[i]? = some x) : fIndex (.dat (.list (r.map eN))) [.dat (eN x)] (.dat (eN i)) := by
  refine ⟨i, eN x, by rw [List.getElem?_map, hi]; rfl, (En.inj (α := Nat) x x).mpr rfl, fun m z hm hz => ?_, shaped_list eN 0 ok_N (by decide) r, rfl, rfl⟩
  rw [List.getElem?_map] at hz
  cases h : r[m]? with
  | none => rw [h] at hz; cases hz
  | some y =>
    rw [h] at hz
    have e := Option.some.inj hz
    subst e
    cases hq : PyData.eqv (eN y) (eN x) with
    | false => rfl
    | true =>
      have := (En.inj (α := Nat) y x).mp hq
      subst this
      have := Wm.nd_ix hn h hi
      omega
end
theorem defAt_mk {K : PySem.W.Frag} {h : Heap} {mg : Str → Option Value} {x : Str} {st : Stmt} {f : Addr} {oc : Value} {od an : Option Addr} {osl : Array (Option Value)} {kV doc pm cdv ct : Value} (X : K.In h) (G : h.Ns mainGlobals mg) (a : PySem.W.nsIn K mainGlobals x = some (some (.ref f)))
    (l : K.lookup f = some ⟨oc, od, .func (PySem.W.fnOf x x (defArgs st) (defBody st) (defScope st) .none kV doc pm an cdv ct), osl⟩) (c : PySem.W.codeIn K cdv x = true) (k : PySem.W.keepIn K (.ref f) = true) : DefAt K mg x st :=
  ⟨f, _, PySem.W.mg_of X G a, fun_mk l c k⟩
theorem cAt_mk {K : PySem.W.Frag} {h : Heap} {mg : Str → Option Value} {x : Str} {v u : Value} (X : K.In h) (G : h.Ns mainGlobals mg) (a : PySem.W.nsIn K mainGlobals x = some (some v)) (e : v = u) : mg x = some u := e ▸ PySem.W.mg_of X G a
end Wp
end
section
set_option Elab.async false
set_option linter.all false
set_option autoImplicit false
set_option maxRecDepth 100000
set_option maxHeartbeats 4000000
namespace Wk
open PySem L2 Wp Wm
def topS (i : Nat) : Stmt := PySem.Challenge.pw_waypins_k87_whole_ways_that_no_meeting_t.main.body.getD i (.Pass ⟨0, 0, 0, 0⟩)
abbrev s_is_whole : Stmt := topS 13
abbrev s_is_within : Stmt := topS 14
abbrev s_is_long : Stmt := topS 15
abbrev s_rises : Stmt := topS 16
abbrev s_is_way : Stmt := topS 17
abbrev s_other_way : Stmt := topS 18
abbrev s_is_pin_by : Stmt := topS 19
abbrev s_cross : Stmt := topS 20
abbrev s_between : Stmt := topS 21
abbrev s_pairs_of : Stmt := topS 22
abbrev s_is_board : Stmt := topS 23
abbrev s_need_board : Stmt := topS 24
abbrev s_need_pins : Stmt := topS 25
abbrev s_with_ways_by : Stmt := topS 26
abbrev s_with_ways : Stmt := topS 27
abbrev s_mirrored : Stmt := topS 28
abbrev s_other_word : Stmt := topS 33
abbrev s_turned_about : Stmt := topS 34
abbrev s_is_stand_by : Stmt := topS 35
abbrev s_need_stand : Stmt := topS 36
abbrev s_all_stands : Stmt := topS 37
abbrev s_look_of : Stmt := topS 38
abbrev s_met_first : Stmt := topS 39
abbrev s_beside : Stmt := topS 40
abbrev s_beat_by : Stmt := topS 41
abbrev s_beat : Stmt := topS 42
abbrev s_need_row : Stmt := topS 45
abbrev s_need_seen : Stmt := topS 46
abbrev s_by_ways : Stmt := topS 47
abbrev s_all_ways : Stmt := topS 48
abbrev s_end_of : Stmt := topS 49
abbrev s_stories : Stmt := topS 50
abbrev s_many_stories : Stmt := topS 51
abbrev s_sure_ways : Stmt := topS 52
abbrev s_is_story : Stmt := topS 53
abbrev s_some_story : Stmt := topS 54
abbrev s_next_pins : Stmt := topS 55
abbrev s__law_cell_at : Stmt := topS 57
abbrev s__law_pen : Stmt := topS 58
abbrev s__law_draw : Stmt := topS 59
abbrev s__law_pick : Stmt := topS 60
abbrev s__law_cross : Stmt := topS 61
abbrev s__law_far : Stmt := topS 62
abbrev s__law_fits : Stmt := topS 63
abbrev s__law_board : Stmt := topS 64
abbrev s__law_stands : Stmt := topS 65
abbrev s__law_turned_ways : Stmt := topS 66
abbrev s__law_row : Stmt := topS 67
abbrev s__law_free_right : Stmt := topS 68
abbrev s__law_called_right : Stmt := topS 69
abbrev s__law_mirror_right : Stmt := topS 70
abbrev s_law : Stmt := topS 71
/-- what the top has written -/
structure Tx (K : PySem.W.Frag) (mg : Str → Option Value) : Prop where
  d_is_whole : DefAt K mg "is_whole" s_is_whole
  d_is_within : DefAt K mg "is_within" s_is_within
  d_is_long : DefAt K mg "is_long" s_is_long
  d_rises : DefAt K mg "rises" s_rises
  d_is_way : DefAt K mg "is_way" s_is_way
  d_other_way : DefAt K mg "other_way" s_other_way
  d_is_pin_by : DefAt K mg "is_pin_by" s_is_pin_by
  d_cross : DefAt K mg "cross" s_cross
  d_between : DefAt K mg "between" s_between
  d_pairs_of : DefAt K mg "pairs_of" s_pairs_of
  d_is_board : DefAt K mg "is_board" s_is_board
  d_need_board : DefAt K mg "need_board" s_need_board
  d_need_pins : DefAt K mg "need_pins" s_need_pins
  d_with_ways_by : DefAt K mg "with_ways_by" s_with_ways_by
  d_with_ways : DefAt K mg "with_ways" s_with_ways
  d_mirrored : DefAt K mg "mirrored" s_mirrored
  d_other_word : DefAt K mg "other_word" s_other_word
  d_turned_about : DefAt K mg "turned_about" s_turned_about
  d_is_stand_by : DefAt K mg "is_stand_by" s_is_stand_by
  d_need_stand : DefAt K mg "need_stand" s_need_stand
  d_all_stands : DefAt K mg "all_stands" s_all_stands
  d_look_of : DefAt K mg "look_of" s_look_of
  d_met_first : DefAt K mg "met_first" s_met_first
  d_beside : DefAt K mg "beside" s_beside
  d_beat_by : DefAt K mg "beat_by" s_beat_by
  d_beat : DefAt K mg "beat" s_beat
  d_need_row : DefAt K mg "need_row" s_need_row
  d_need_seen : DefAt K mg "need_seen" s_need_seen
  d_by_ways : DefAt K mg "by_ways" s_by_ways
  d_all_ways : DefAt K mg "all_ways" s_all_ways
  d_end_of : DefAt K mg "end_of" s_end_of
  d_stories : DefAt K mg "stories" s_stories
  d_many_stories : DefAt K mg "many_stories" s_many_stories
  d_sure_ways : DefAt K mg "sure_ways" s_sure_ways
  d_is_story : DefAt K mg "is_story" s_is_story
  d_some_story : DefAt K mg "some_story" s_some_story
  d_next_pins : DefAt K mg "next_pins" s_next_pins
  d__law_cell_at : DefAt K mg "_law_cell_at" s__law_cell_at
  d__law_pen : DefAt K mg "_law_pen" s__law_pen
  d__law_draw : DefAt K mg "_law_draw" s__law_draw
  d__law_pick : DefAt K mg "_law_pick" s__law_pick
  d__law_cross : DefAt K mg "_law_cross" s__law_cross
  d__law_far : DefAt K mg "_law_far" s__law_far
  d__law_fits : DefAt K mg "_law_fits" s__law_fits
  d__law_board : DefAt K mg "_law_board" s__law_board
  d__law_stands : DefAt K mg "_law_stands" s__law_stands
  d__law_turned_ways : DefAt K mg "_law_turned_ways" s__law_turned_ways
  d__law_row : DefAt K mg "_law_row" s__law_row
  d__law_free_right : DefAt K mg "_law_free_right" s__law_free_right
  d__law_called_right : DefAt K mg "_law_called_right" s__law_called_right
  d__law_mirror_right : DefAt K mg "_law_mirror_right" s__law_mirror_right
  d_law : DefAt K mg "law" s_law
  c_LEFT : ∃ t, mg "LEFT" = some (.str "left" t)
  c_RIGHT : ∃ t, mg "RIGHT" = some (.str "right" t)
  c_MOST_PLACE : ∃ t, mg "MOST_PLACE" = some (.int 99 t)
  c_FEWEST_PINS : ∃ t, mg "FEWEST_PINS" = some (.int 3 t)
  c_MOST_PINS : ∃ t, mg "MOST_PINS" = some (.int 8 t)
  c_LONG_PIN : ∃ t, mg "LONG_PIN" = some (.int 3 t)
  c_AHEAD : ∃ t, mg "AHEAD" = some (.str "ahead" t)
  c_BEHIND : ∃ t, mg "BEHIND" = some (.str "behind" t)
  c_LONG_STAND : ∃ t, mg "LONG_STAND" = some (.int 3 t)
  c_MOST_ROW : ∃ t, mg "MOST_ROW" = some (.int 30 t)
  z_len : mg "len" = none
  z_max : mg "max" = none
  z_min : mg "min" = none
  z_all : mg "all" = none
  z_isinstance : mg "isinstance" = none
  z_sorted : mg "sorted" = none
  z_int : mg "int" = none
  z_list : mg "list" = none
  z_tuple : mg "tuple" = none
  z_set : mg "set" = none
  z_str : mg "str" = none
  z_range : mg "range" = none
  z_enumerate : mg "enumerate" = none
  z_zip : mg "zip" = none
  z_bool : mg "bool" = none
/-! ### the words of the evaluation -/
local macro_rules | `(tactic| walk_at "sd") => `(tactic| first
  | assumption
  | exact trivial
  | exact rfl
  | omega
  | (refine ⟨?_, ?_⟩ <;> (walk_at "sd")))
local macro_rules | `(tactic| walk_at "g1") => `(tactic| first
  | ((with_reducible apply ev_var); exact rfl)
  | with_reducible exact ev_int
  | with_reducible exact ev_str
  | with_reducible exact ev_bl
  | with_reducible exact ev_non
  | with_reducible exact ev_raw
  | exact ev_int
  | with_reducible exact xa_nil
  | with_reducible exact xd_nil
  | with_reducible exact eo_none
  | with_reducible apply x_op
  | with_reducible apply x_cb
  | with_reducible apply x_call
  | with_reducible apply x_tup
  | with_reducible apply x_lst
  | with_reducible apply xa_cons
  | with_reducible apply xd_cons
  | with_reducible apply xo_some
  | with_reducible apply x_un
  | with_reducible apply x_sl
  | with_reducible apply x_if
  | with_reducible apply x_and
  | with_reducible apply x_or
  | with_reducible apply x_not
  | with_reducible apply x_chain
  | with_reducible apply xt_test
  | with_reducible apply xt_B
  | with_reducible apply xt_not
  | with_reducible apply xt_and
  | with_reducible apply xt_or
  | ((with_reducible refine fun _ => ?_); first | with_reducible show EvG _ _ _ _ _ _ _ | with_reducible show EtG _ _ _ _ _ _ _)
  | ((with_reducible refine fun _ _ => ?_); first | with_reducible show TgW _ _ _ _ _ _ | with_reducible show EvG _ _ _ _ _ _ _ | with_reducible show EtG _ _ _ _ _ _ _)
  | exact rfl
  | assumption
  | exact ⟨_, rfl, rfl⟩
  | exact ⟨_, by assumption, rfl⟩
  | exact ⟨trivial, rfl⟩
  | exact Or.inl rfl
  | exact ⟨rfl, rfl, rfl⟩
  | exact ⟨by decide, rfl⟩
  | exact ⟨by assumption, rfl⟩
  | exact ⟨rfl, by assumption⟩
  | exact ⟨rfl, by decide⟩
  | (show List.length _ ≤ 1000; exact Nat.le_of_ble_eq_true rfl)
  | fail "open")
local macro_rules | `(tactic| walk_at "go") => `(tactic| repeat' (walk_at "g1"))
local macro_rules | `(tactic| walk_at "g1") => `(tactic| ((with_reducible apply ix_pin); (try (walk_at "sd"))))
local macro_rules | `(tactic| walk_at "g1") => `(tactic| first
  | with_reducible exact tw_name
  | with_reducible apply tw_tup
  | with_reducible exact tws_nil
  | with_reducible apply tws_cons
  | with_reducible exact tg_name
  | with_reducible apply tg_tup
  | with_reducible exact tgs_nil
  | with_reducible apply tgs_cons
  | with_reducible exact r_all _ _
  | with_reducible exact r_sum _ _
  | with_reducible exact r_len _
  | with_reducible exact r_lenT _)
local macro_rules | `(tactic| walk_at "g1") => `(tactic| first
  | with_reducible exact dEq_wayL _
  | with_reducible exact dEq_wordA _
  | with_reducible exact dEq_wordB _
  | with_reducible exact dEq_int _ _
  | with_reducible exact dNe_int _ _
  | with_reducible exact dEq_bool _ _
  | with_reducible exact r_all2 _ _ _
  | with_reducible exact dIn_nats _ _
  | with_reducible exact dNotIn_nats _ _)
local macro_rules | `(tactic| walk_at "g1") => `(tactic| first
  | ((with_reducible apply dMod_at); (walk_at "sd"))
  | ((with_reducible apply dDiv_at); (walk_at "sd"))
  | ((with_reducible apply dMul_at); (walk_at "sd")))

section
variable {P : Program} {w : World} {K : PySem.W.Frag} {mg : Str → Option Value} {base : Heap}
def F_is_whole : List RD → RD → Prop := fun aa zz => ∃ (i : Int), (True) ∧ aa = [.dat (.int i)] ∧ zz = .dat (.bool true)
theorem r_is_whole (i : Int) (hc : True) : F_is_whole [.dat (.int i)] (.dat (.bool true)) := ⟨i, hc, rfl, rfl⟩
abbrev sp_is_whole (K : PySem.W.Frag) : Sp := spD K F_is_whole
local macro_rules | `(tactic| walk_at "g1") => `(tactic| ((with_reducible apply r_is_whole); (try (walk_at "sd"))))
theorem sc_is_whole : FnScope ["thing"] ["thing"] (defScope s_is_whole) := ⟨rfl, rfl, rfl, by decide +kernel, rfl, by decide +kernel, by decide +kernel⟩
-- slots: 0 thing
theorem df_is_whole (T : Tx K mg) : Df P w K mg base "is_whole" 1 ["thing"] (sp_is_whole K) := by
  obtain ⟨f, fd, hm, F⟩ := T.d_is_whole
  refine ⟨f, fd, hm, F.kp, F.binds (ps := ["thing"]) (fun _ _ _ _ _ _ us hl => match us, hl with | [_], _ => rfl), F.ok sc_is_whole (fun vs H Q E h => ?_) (fun cdv A outer s H vs Q E hr h => ?_)⟩
  · obtain ⟨H0, aa, zz, s0, hd, ⟨i, hc, rfl, rfl⟩, q⟩ := h
    exact hd.length
  obtain ⟨H0, aa, zz, s0, hd, ⟨i, hc, rfl, rfl⟩, q⟩ := h
  refine ⟨_, (pss_one (ps_ret (pe_and (pe_callB (cK cD_isi (K := K)) (by rfl) T.z_isinstance (by decide +kernel) (pa_cons (pv 0) (pa_cons (pe_bltn (v := .ty "int") (by rfl) T.z_int (by decide +kernel) rfl) pa_nil))) (pe_one (pe_not (pe_callB (cK cD_isi (K := K)) (by rfl) T.z_isinstance (by decide +kernel) (pa_cons (pv 0) (pa_cons (pe_bltn (v := .ty "bool") (by rfl) T.z_bool (by decide +kernel) rfl) pa_nil)))))))), ?_⟩
  refine body_end s0 hd q ?_
  refine y_retE (r0 := .dat (.bool (true && !false))) ?_ rfl rfl
  walk_at "go"
def F_is_within : List RD → RD → Prop := fun aa zz => ∃ (i a b : Int), (True) ∧ aa = [.dat (.int i), .dat (.int a), .dat (.int b)] ∧ zz = .dat (.bool (decide (a ≤ i) && decide (i ≤ b)))
theorem r_is_within (i a b : Int) (hc : True) : F_is_within [.dat (.int i), .dat (.int a), .dat (.int b)] (.dat (.bool (decide (a ≤ i) && decide (i ≤ b)))) := ⟨i, a, b, hc, rfl, rfl⟩
abbrev sp_is_within (K : PySem.W.Frag) : Sp := spD K F_is_within
local macro_rules | `(tactic| walk_at "g1") => `(tactic| ((with_reducible apply r_is_within); (try (walk_at "sd"))))
theorem sc_is_within : FnScope ["thing", "least", "most"] ["thing", "least", "most"] (defScope s_is_within) := ⟨rfl, rfl, rfl, by decide +kernel, rfl, by decide +kernel, by decide +kernel⟩
-- slots: 0 thing, 1 least, 2 most
theorem df_is_within (T : Tx K mg) (df_is_whole : Df P w K mg base "is_whole" 1 ["thing"] (sp_is_whole K)) : Df P w K mg base "is_within" 2 ["thing", "least", "most"] (sp_is_within K) := by
  obtain ⟨f, fd, hm, F⟩ := T.d_is_within
  refine ⟨f, fd, hm, F.kp, F.binds (ps := ["thing", "least", "most"]) (fun _ _ _ _ _ _ us hl => match us, hl with | [_, _, _], _ => rfl), F.ok sc_is_within (fun vs H Q E h => ?_) (fun cdv A outer s H vs Q E hr h => ?_)⟩
  · obtain ⟨H0, aa, zz, s0, hd, ⟨i, a, b, hc, rfl, rfl⟩, q⟩ := h
    exact hd.length
  obtain ⟨H0, aa, zz, s0, hd, ⟨i, a, b, hc, rfl, rfl⟩, q⟩ := h
  refine ⟨_, (pss_one (ps_ret (pe_and (pe_df df_is_whole (hr.mono (by decide)) (by rfl) (pa_cons (pv 0) pa_nil)) (pe_one (pe_chain (oK oD_le (K := K)) (oK oD_le (K := K)) (pv 1) (pv 0) (pv 2)))))), ?_⟩
  refine body_end s0 hd q ?_
  refine y_retE (r0 := .dat (.bool (true && _))) ?_ (by rw [Bool.true_and]) rfl
  walk_at "go"
def F_is_long : List RD → RD → Prop := fun aa zz => ∃ (ds : List PyData) (a b : Int), (True) ∧ aa = [.dat (.tuple ds), .dat (.int a), .dat (.int b)] ∧ zz = .dat (.bool (decide (a ≤ ds.length) && decide (ds.length ≤ b)))
theorem r_is_long (ds : List PyData) (a b : Int) (hc : True) : F_is_long [.dat (.tuple ds), .dat (.int a), .dat (.int b)] (.dat (.bool (decide (a ≤ ds.length) && decide (ds.length ≤ b)))) := ⟨ds, a, b, hc, rfl, rfl⟩
abbrev sp_is_long (K : PySem.W.Frag) : Sp := spD K F_is_long
local macro_rules | `(tactic| walk_at "g1") => `(tactic| ((with_reducible apply r_is_long); (try (walk_at "sd"))))
theorem sc_is_long : FnScope ["thing", "least", "most"] ["thing", "least", "most"] (defScope s_is_long) := ⟨rfl, rfl, rfl, by decide +kernel, rfl, by decide +kernel, by decide +kernel⟩
-- slots: 0 thing, 1 least, 2 most
theorem df_is_long (T : Tx K mg) : Df P w K mg base "is_long" 1 ["thing", "least", "most"] (sp_is_long K) := by
  obtain ⟨f, fd, hm, F⟩ := T.d_is_long
  refine ⟨f, fd, hm, F.kp, F.binds (ps := ["thing", "least", "most"]) (fun _ _ _ _ _ _ us hl => match us, hl with | [_, _, _], _ => rfl), F.ok sc_is_long (fun vs H Q E h => ?_) (fun cdv A outer s H vs Q E hr h => ?_)⟩
  · obtain ⟨H0, aa, zz, s0, hd, ⟨ds, a, b, hc, rfl, rfl⟩, q⟩ := h
    exact hd.length
  obtain ⟨H0, aa, zz, s0, hd, ⟨ds, a, b, hc, rfl, rfl⟩, q⟩ := h
  refine ⟨_, (pss_one (ps_ret (pe_and (pe_callB (cK cD_isi (K := K)) (by rfl) T.z_isinstance (by decide +kernel) (pa_cons (pv 0) (pa_cons (pe_bltn (v := .ty "tuple") (by rfl) T.z_tuple (by decide +kernel) rfl) pa_nil))) (pe_one (pe_chain (oK oD_le (K := K)) (oK oD_le (K := K)) (pv 1) (pe_callB (cK cD_lenA (K := K) (R' := fLenA P w)) (by rfl) T.z_len (by decide +kernel) (pa_cons (pv 0) pa_nil)) (pv 2)))))), ?_⟩
  refine body_end s0 hd q ?_
  refine y_retE (r0 := .dat (.bool (true && _))) ?_ (by rw [Bool.true_and]) rfl
  walk_at "go"
def F_rises : List RD → RD → Prop := fun aa zz => ∃ (r : List Nat), (r.Pairwise (· < ·) ∧ r.length ≤ 1000) ∧ aa = [.dat (eR r)] ∧ zz = .dat (.bool true)
theorem r_rises (r : List Nat) (hc : r.Pairwise (· < ·) ∧ r.length ≤ 1000) : F_rises [.dat (eR r)] (.dat (.bool true)) := ⟨r, hc, rfl, rfl⟩
abbrev sp_rises (K : PySem.W.Frag) : Sp := spD K F_rises
local macro_rules | `(tactic| walk_at "g1") => `(tactic| ((with_reducible apply r_rises); (try (walk_at "sd"))))
theorem sc_rises : FnScope ["row", "one", "later"] ["row"] (defScope s_rises) := ⟨rfl, rfl, rfl, by decide +kernel, rfl, by decide +kernel, by decide +kernel⟩
-- slots: 0 row, 1 one, 2 later
theorem df_rises (T : Tx K mg) : Df P w K mg base "rises" 1 ["row"] (sp_rises K) := by
  obtain ⟨f, fd, hm, F⟩ := T.d_rises
  refine ⟨f, fd, hm, F.kp, F.binds (ps := ["row"]) (fun _ _ _ _ _ _ us hl => match us, hl with | [_], _ => rfl), F.ok sc_rises (fun vs H Q E h => ?_) (fun cdv A outer s H vs Q E hr h => ?_)⟩
  · obtain ⟨H0, aa, zz, s0, hd, ⟨r, hc, rfl, rfl⟩, q⟩ := h
    exact hd.length
  obtain ⟨H0, aa, zz, s0, hd, ⟨r, hc, rfl, rfl⟩, q⟩ := h
  refine ⟨_, (pss_one (ps_ret (pe_callB (cK (cD_all rfl) (K := K)) (by rfl) T.z_all (by decide +kernel) (pa_cons (pe_lc (own := [("one", 1), ("later", 2)]) (g := (gTup K 2 (gCons (gName 1) (gCons (gName 2) gNil)))) (tt := tYes) rfl sc_rises.nd (kZip (by rfl) T.z_zip (pa_cons (pv 0) (pa_cons (pe_slice (lK slD (K := K)) (pv 0) (po_some pe_int) po_none) pa_nil)) (ek := rfl) (K := K)) (blkOk_by (show blkC ["row", "one", "later"] (defScope s_rises) _ _ = true by decide +kernel)) (fun _ _ _ _ _ => (kTup (K := K) 2 rfl (pgs_cons (pg_name (i := 1) sc_rises.nd rfl (by first | exact Or.inl rfl | exact Or.inr rfl)) (pgs_cons (pg_name (i := 2) sc_rises.nd rfl (by first | exact Or.inl rfl | exact Or.inr rfl)) pgs_nil)))) (fun _ _ _ _ _ => pts_nil) (fun _ _ _ _ _ => (pe_cmpR (oK oD_lt (K := K)) (pv 1) (pv 2) (nomark _)))) pa_nil)))), ?_⟩
  refine body_end s0 hd q ?_
  refine y_retE (r0 := .dat (.bool ((r.zip (r.drop 1)).all fun p => decide ((p.1 : Int) < (p.2 : Int))))) ?_ ?_ rfl
  · refine x_cb (xa_cons ?_ xa_nil) (r_all _ _)
    apply x_lcM (r.zip (r.drop 1)) (fun p => RD.dat (.tuple [eN p.1, eN p.2])) (fun p => .bool (decide ((p.1 : Int) < (p.2 : Int))))
    · refine xi_zipT (f := eN) (g := eN) ?_
      refine xa_cons ?_ (xa_cons (ev_is (r := .dat (.tuple (cutD (r.map eN) (some 1) none))) ?_ ?_) xa_nil)
      · walk_at "go"
      · walk_at "go"
      · rw [show (1 : Int) = ((1 : Nat) : Int) from rfl, cut_from, List.map_drop]
    · walk_at "go"
    · walk_at "go"
    · rw [List.length_zip]; omega
  · refine congrArg (fun z => RD.dat (.bool z)) (List.all_eq_true.mpr fun p hp => decide_eq_true ?_)
    obtain ⟨i, hi⟩ := List.getElem?_of_mem hp
    obtain ⟨h1, h2⟩ := zipAt hi
    rw [List.getElem?_drop] at h2
    obtain ⟨l1, e1⟩ := List.getElem?_eq_some_iff.mp h1
    obtain ⟨l2, e2⟩ := List.getElem?_eq_some_iff.mp h2
    have := List.pairwise_iff_getElem.mp hc.1 i (1 + i) l1 l2 (by omega)
    omega
theorem in_ways (v : Way) : dIn false (.dat (eW v)) (.dat (.tuple [.str "left", .str "right"])) (.dat (.bool true)) := by
  cases v <;> exact ⟨rfl, rfl, rfl⟩
def F_is_way : List RD → RD → Prop := fun aa zz => ∃ (v : Way), (True) ∧ aa = [.dat (eW v)] ∧ zz = .dat (.bool true)
theorem r_is_way (v : Way) (hc : True) : F_is_way [.dat (eW v)] (.dat (.bool true)) := ⟨v, hc, rfl, rfl⟩
abbrev sp_is_way (K : PySem.W.Frag) : Sp := spD K F_is_way
local macro_rules | `(tactic| walk_at "g1") => `(tactic| ((with_reducible apply r_is_way); (try (walk_at "sd"))))
theorem sc_is_way : FnScope ["thing"] ["thing"] (defScope s_is_way) := ⟨rfl, rfl, rfl, by decide +kernel, rfl, by decide +kernel, by decide +kernel⟩
-- slots: 0 thing
theorem df_is_way (T : Tx K mg) : Df P w K mg base "is_way" 1 ["thing"] (sp_is_way K) := by
  obtain ⟨f, fd, hm, F⟩ := T.d_is_way
  refine ⟨f, fd, hm, F.kp, F.binds (ps := ["thing"]) (fun _ _ _ _ _ _ us hl => match us, hl with | [_], _ => rfl), F.ok sc_is_way (fun vs H Q E h => ?_) (fun cdv A outer s H vs Q E hr h => ?_)⟩
  · obtain ⟨H0, aa, zz, s0, hd, ⟨v, hc, rfl, rfl⟩, q⟩ := h
    exact hd.length
  obtain ⟨H0, aa, zz, s0, hd, ⟨v, hc, rfl, rfl⟩, q⟩ := h
  refine ⟨_, (pss_one (ps_ret (pe_and (pe_callB (cK cD_isi (K := K)) (by rfl) T.z_isinstance (by decide +kernel) (pa_cons (pv 0) (pa_cons (pe_bltn (v := .ty "str") (by rfl) T.z_str (by decide +kernel) rfl) pa_nil))) (pe_one (pe_cmpR (oK (oD_in (u65 hr)) (K := K)) (pv 0) (pe_tup (pa_cons (pe_gstr (by rfl) T.c_LEFT) (pa_cons (pe_gstr (by rfl) T.c_RIGHT) pa_nil))) (by rfl)))))), ?_⟩
  refine body_end s0 hd q ?_
  refine y_retE (r0 := .dat (.bool (true && true))) ?_ rfl rfl
  refine x_and ?_ fun _ => ?_
  · walk_at "go"
  · refine x_op ?_ ?_ (in_ways v)
    · walk_at "go"
    · walk_at "go"
theorem flip_if (v : Way) : (if decide (v = .left) = true then PyData.str "right" else .str "left") = eW v.flip := by cases v <;> rfl
def F_other_way : List RD → RD → Prop := fun aa zz => ∃ (v : Way), (True) ∧ aa = [.dat (eW v)] ∧ zz = .dat (eW v.flip)
theorem r_other_way (v : Way) (hc : True) : F_other_way [.dat (eW v)] (.dat (eW v.flip)) := ⟨v, hc, rfl, rfl⟩
abbrev sp_other_way (K : PySem.W.Frag) : Sp := spD K F_other_way
local macro_rules | `(tactic| walk_at "g1") => `(tactic| ((with_reducible apply r_other_way); (try (walk_at "sd"))))
theorem sc_other_way : FnScope ["way"] ["way"] (defScope s_other_way) := ⟨rfl, rfl, rfl, by decide +kernel, rfl, by decide +kernel, by decide +kernel⟩
-- slots: 0 way
theorem df_other_way (T : Tx K mg) : Df P w K mg base "other_way" 1 ["way"] (sp_other_way K) := by
  obtain ⟨f, fd, hm, F⟩ := T.d_other_way
  refine ⟨f, fd, hm, F.kp, F.binds (ps := ["way"]) (fun _ _ _ _ _ _ us hl => match us, hl with | [_], _ => rfl), F.ok sc_other_way (fun vs H Q E h => ?_) (fun cdv A outer s H vs Q E hr h => ?_)⟩
  · obtain ⟨H0, aa, zz, s0, hd, ⟨v, hc, rfl, rfl⟩, q⟩ := h
    exact hd.length
  obtain ⟨H0, aa, zz, s0, hd, ⟨v, hc, rfl, rfl⟩, q⟩ := h
  refine ⟨_, (pss_one (ps_ret (pe_ifExp (pt_cmpR (oK (oD_eq hr.units) (K := K)) (pv 0) (pe_gstr (by rfl) T.c_LEFT) (nomark _)) (pe_gstr (by rfl) T.c_RIGHT) (pe_gstr (by rfl) T.c_LEFT)))), ?_⟩
  refine body_end s0 hd q ?_
  refine y_retE (r0 := .dat (if decide (v = .left) = true then PyData.str "right" else .str "left")) ?_ (congrArg RD.dat (flip_if v)) rfl
  refine x_if (xt_test (x_op ?_ ?_ (dEq_wayL v))) ?_ ?_ <;> walk_at "go"
def F_is_pin_by : List RD → RD → Prop := fun aa zz => ∃ (p : Pin), (PinOk p) ∧ aa = [.dat (eP p)] ∧ zz = .dat (.bool true)
theorem r_is_pin_by (p : Pin) (hc : PinOk p) : F_is_pin_by [.dat (eP p)] (.dat (.bool true)) := ⟨p, hc, rfl, rfl⟩
abbrev sp_is_pin_by (K : PySem.W.Frag) : Sp := spD K F_is_pin_by
local macro_rules | `(tactic| walk_at "g1") => `(tactic| ((with_reducible apply r_is_pin_by); (try (walk_at "sd"))))
theorem sc_is_pin_by : FnScope ["thing"] ["thing"] (defScope s_is_pin_by) := ⟨rfl, rfl, rfl, by decide +kernel, rfl, by decide +kernel, by decide +kernel⟩
-- slots: 0 thing
theorem df_is_pin_by (T : Tx K mg) (df_is_long : Df P w K mg base "is_long" 1 ["thing", "least", "most"] (sp_is_long K)) (df_is_way : Df P w K mg base "is_way" 1 ["thing"] (sp_is_way K)) (df_is_within : Df P w K mg base "is_within" 2 ["thing", "least", "most"] (sp_is_within K)) : Df P w K mg base "is_pin_by" 3 ["thing"] (sp_is_pin_by K) := by
  obtain ⟨f, fd, hm, F⟩ := T.d_is_pin_by
  refine ⟨f, fd, hm, F.kp, F.binds (ps := ["thing"]) (fun _ _ _ _ _ _ us hl => match us, hl with | [_], _ => rfl), F.ok sc_is_pin_by (fun vs H Q E h => ?_) (fun cdv A outer s H vs Q E hr h => ?_)⟩
  · obtain ⟨H0, aa, zz, s0, hd, ⟨p, hc, rfl, rfl⟩, q⟩ := h
    exact hd.length
  obtain ⟨H0, aa, zz, s0, hd, ⟨p, hc, rfl, rfl⟩, q⟩ := h
  refine ⟨_, (pss_cons (ps_if (PW.pt (pw_or (pt_not (pt_val (pe_df df_is_long (hr.mono (by decide)) (by rfl) (pa_cons (pv 0) (pa_cons (pe_gint (by rfl) T.c_LONG_PIN) (pa_cons (pe_gint (by rfl) T.c_LONG_PIN) pa_nil)))))) (pw_or1 (pt_not (pt_val (pe_df df_is_way (hr.mono (by decide)) (by rfl) (pa_cons (pe_ix (xK ixD (K := K)) (pv 0) pe_int (fun _ _ => rfl)) pa_nil))))))) (pss_one (ps_ret pe_bl)) pss_nil) (pss_one (ps_ret (pe_and (pe_df df_is_within (hr.mono (by decide)) (by rfl) (pa_cons (pe_ix (xK ixD (K := K)) (pv 0) pe_int (fun _ _ => rfl)) (pa_cons pe_int (pa_cons (pe_gint (by rfl) T.c_MOST_PLACE) pa_nil)))) (pe_one (pe_df df_is_within (hr.mono (by decide)) (by rfl) (pa_cons (pe_ix (xK ixD (K := K)) (pv 0) pe_int (fun _ _ => rfl)) (pa_cons pe_int (pa_cons (pe_gint (by rfl) T.c_MOST_PLACE) pa_nil))))))))), ?_⟩
  refine body_end s0 hd q ?_
  apply y_skip
  · walk_at "go"
  · rfl
  · refine y_retE (r0 := .dat (.bool ((decide (0 ≤ p.x) && decide (p.x ≤ 99)) && (decide (0 ≤ p.y) && decide (p.y ≤ 99))))) ?_ ?_ rfl
    · walk_at "go"
    · obtain ⟨h1, h2, h3, h4⟩ := hc
      simp [h1, h2, h3, h4]
def F_cross : List RD → RD → Prop := fun aa zz => ∃ (u v : Dir), (Sm v) ∧ aa = [.dat (eD u), .dat (eD v)] ∧ zz = .dat (.int (Wm.cross u v))
theorem r_cross (u v : Dir) (hc : Sm v) : F_cross [.dat (eD u), .dat (eD v)] (.dat (.int (Wm.cross u v))) := ⟨u, v, hc, rfl, rfl⟩
abbrev sp_cross (K : PySem.W.Frag) : Sp := spD K F_cross
local macro_rules | `(tactic| walk_at "g1") => `(tactic| ((with_reducible apply r_cross); (try (walk_at "sd"))))
theorem sc_cross : FnScope ["one", "other"] ["one", "other"] (defScope s_cross) := ⟨rfl, rfl, rfl, by decide +kernel, rfl, by decide +kernel, by decide +kernel⟩
-- slots: 0 one, 1 other
theorem df_cross (T : Tx K mg) : Df P w K mg base "cross" 1 ["one", "other"] (sp_cross K) := by
  obtain ⟨f, fd, hm, F⟩ := T.d_cross
  refine ⟨f, fd, hm, F.kp, F.binds (ps := ["one", "other"]) (fun _ _ _ _ _ _ us hl => match us, hl with | [_, _], _ => rfl), F.ok sc_cross (fun vs H Q E h => ?_) (fun cdv A outer s H vs Q E hr h => ?_)⟩
  · obtain ⟨H0, aa, zz, s0, hd, ⟨u, v, hc, rfl, rfl⟩, q⟩ := h
    exact hd.length
  obtain ⟨H0, aa, zz, s0, hd, ⟨u, v, hc, rfl, rfl⟩, q⟩ := h
  refine ⟨_, (pss_one (ps_ret (pe_op (oK oD_sub (K := K)) (pe_op (oK oD_mul (K := K)) (pe_ix (xK ixD (K := K)) (pv 0) pe_int (fun _ _ => rfl)) (pe_ix (xK ixD (K := K)) (pv 1) pe_int (fun _ _ => rfl))) (pe_op (oK oD_mul (K := K)) (pe_ix (xK ixD (K := K)) (pv 0) pe_int (fun _ _ => rfl)) (pe_ix (xK ixD (K := K)) (pv 1) pe_int (fun _ _ => rfl)))))), ?_⟩
  refine body_end s0 hd q ?_
  obtain ⟨h1, h2, h3, h4⟩ := hc
  refine y_ret ?_ rfl
  refine x_op (a := .dat (.int (u.1 * v.2))) (b := .dat (.int (u.2 * v.1))) (x_op (a := .dat (.int u.1)) (b := .dat (.int v.2)) ?_ ?_ ⟨.inr ⟨h3, h4⟩, rfl⟩) (x_op (a := .dat (.int u.2)) (b := .dat (.int v.1)) ?_ ?_ ⟨.inr ⟨h1, h2⟩, rfl⟩) ⟨trivial, rfl⟩ <;> walk_at "go"
def F_between : List RD → RD → Prop := fun aa zz => ∃ (b : Board) (i j : Nat), (i < b.length ∧ j < b.length) ∧ aa = [.dat (eB b), .dat (eN i), .dat (eN j)] ∧ zz = .dat (eD (Wm.between b i j))
theorem r_between (b : Board) (i j : Nat) (hc : i < b.length ∧ j < b.length) : F_between [.dat (eB b), .dat (eN i), .dat (eN j)] (.dat (eD (Wm.between b i j))) := ⟨b, i, j, hc, rfl, rfl⟩
abbrev sp_between (K : PySem.W.Frag) : Sp := spD K F_between
local macro_rules | `(tactic| walk_at "g1") => `(tactic| ((with_reducible apply r_between); (try (walk_at "sd"))))
theorem sc_between : FnScope ["board", "one", "other"] ["board", "one", "other"] (defScope s_between) := ⟨rfl, rfl, rfl, by decide +kernel, rfl, by decide +kernel, by decide +kernel⟩
-- slots: 0 board, 1 one, 2 other
theorem df_between (T : Tx K mg) : Df P w K mg base "between" 1 ["board", "one", "other"] (sp_between K) := by
  obtain ⟨f, fd, hm, F⟩ := T.d_between
  refine ⟨f, fd, hm, F.kp, F.binds (ps := ["board", "one", "other"]) (fun _ _ _ _ _ _ us hl => match us, hl with | [_, _, _], _ => rfl), F.ok sc_between (fun vs H Q E h => ?_) (fun cdv A outer s H vs Q E hr h => ?_)⟩
  · obtain ⟨H0, aa, zz, s0, hd, ⟨b, i, j, hc, rfl, rfl⟩, q⟩ := h
    exact hd.length
  obtain ⟨H0, aa, zz, s0, hd, ⟨b, i, j, hc, rfl, rfl⟩, q⟩ := h
  refine ⟨_, (pss_one (ps_ret (pe_tup (pa_cons (pe_op (oK oD_sub (K := K)) (pe_ix (xK ixD (K := K)) (pe_ix (xK ixD (K := K)) (pv 0) (pv 2) (fun _ _ => rfl)) pe_int (fun _ _ => rfl)) (pe_ix (xK ixD (K := K)) (pe_ix (xK ixD (K := K)) (pv 0) (pv 1) (fun _ _ => rfl)) pe_int (fun _ _ => rfl))) (pa_cons (pe_op (oK oD_sub (K := K)) (pe_ix (xK ixD (K := K)) (pe_ix (xK ixD (K := K)) (pv 0) (pv 2) (fun _ _ => rfl)) pe_int (fun _ _ => rfl)) (pe_ix (xK ixD (K := K)) (pe_ix (xK ixD (K := K)) (pv 0) (pv 1) (fun _ _ => rfl)) pe_int (fun _ _ => rfl))) pa_nil))))), ?_⟩
  refine body_end s0 hd q ?_
  obtain ⟨h1, h2⟩ := hc
  refine y_ret ?_ rfl
  walk_at "go"
def F_pairs_of : List RD → RD → Prop := fun aa zz => ∃ (b : Board), (b.length ≤ 100) ∧ aa = [.dat (eB b)] ∧ zz = .dat (.list ((pairsOf b).map eD))
theorem r_pairs_of (b : Board) (hc : b.length ≤ 100) : F_pairs_of [.dat (eB b)] (.dat (.list ((pairsOf b).map eD))) := ⟨b, hc, rfl, rfl⟩
abbrev sp_pairs_of (K : PySem.W.Frag) : Sp := spD K F_pairs_of
local macro_rules | `(tactic| walk_at "g1") => `(tactic| ((with_reducible apply r_pairs_of); (try (walk_at "sd"))))
theorem sc_pairs_of : FnScope ["board", "found", "other", "one"] ["board"] (defScope s_pairs_of) := ⟨rfl, rfl, rfl, by decide +kernel, rfl, by decide +kernel, by decide +kernel⟩
-- slots: 0 board, 1 found, 2 other, 3 one
theorem df_pairs_of (T : Tx K mg) (df_between : Df P w K mg base "between" 1 ["board", "one", "other"] (sp_between K)) : Df P w K mg base "pairs_of" 2 ["board"] (sp_pairs_of K) := by
  obtain ⟨f, fd, hm, F⟩ := T.d_pairs_of
  refine ⟨f, fd, hm, F.kp, F.binds (ps := ["board"]) (fun _ _ _ _ _ _ us hl => match us, hl with | [_], _ => rfl), F.ok sc_pairs_of (fun vs H Q E h => ?_) (fun cdv A outer s H vs Q E hr h => ?_)⟩
  · obtain ⟨H0, aa, zz, s0, hd, ⟨b, hc, rfl, rfl⟩, q⟩ := h
    exact hd.length
  obtain ⟨H0, aa, zz, s0, hd, ⟨b, hc, rfl, rfl⟩, q⟩ := h
  refine ⟨_, (pss_cons (ps_asg (pe_lst pa_nil) (pg_name (i := 1) sc_pairs_of.nd rfl (by first | exact Or.inl rfl | exact Or.inr rfl))) (pss_cons (ps_for PassesOwn.never rfl (pi_range1 (by rfl) T.z_range (pa_cons (pe_callB (cK cD_lenA (K := K) (R' := fLenA P w)) (by rfl) T.z_len (by decide +kernel) (pa_cons (pv 0) pa_nil)) pa_nil)) (pg_name (i := 2) sc_pairs_of.nd rfl (by first | exact Or.inl rfl | exact Or.inr rfl)) (pss_one (ps_expr (pe_bm PySem.F.plainAttrs_list PySem.F.slot_list_extend PySem.F.type_list_extend mt_extend (pv 1) (pa_cons (pe_lc (own := [("one", 3)]) (g := (gName 3)) (tt := tYes) rfl sc_pairs_of.nd (pi_range1 (by rfl) T.z_range (pa_cons (pv 2) pa_nil)) (blkOk_by (show blkC ["board", "found", "other", "one"] (defScope s_pairs_of) _ _ = true by decide +kernel)) (fun _ _ _ _ _ => (pg_name (i := 3) sc_pairs_of.nd rfl (by first | exact Or.inl rfl | exact Or.inr rfl))) (fun _ _ _ _ _ => pts_nil) (fun _ _ _ _ _ => (pe_df df_between (hr.mono (by decide)) (by rfl) (pa_cons (pv 0) (pa_cons (pv 3) (pa_cons (pv 2) pa_nil)))))) pa_nil))))) (pss_one (ps_ret (pv 1))))), ?_⟩
  refine body_end s0 hd q ?_
  refine sv_newLF (ds := []) (by with_reducible exact xd_nil) (by decide) fun p => ?_
  apply y_for (xs := List.range b.length) (enc := fun i => RD.dat (eN i)) (fun i G' M' => M' = [.lst (((List.range i).flatMap fun other => (List.range other).map fun one => Wm.between b one other).map eD)] ∧ ∃ x y, G' = [some (.dat (eB b)), some (.raw (.ref p)), x, y])
  · apply xi_rngN
    · walk_at "go"
    · omega
  · exact ⟨rfl, none, none, rfl⟩
  · rintro i x hx G' M' ⟨rfl, y, z, rfl⟩
    obtain ⟨rfl, hi⟩ := range_at hx
    apply svt
    · walk_at "go"
    have hl := pairs_len b x (by omega)
    apply sv_ext (j := 0) (p := p) (es := ((List.range x).map fun one => Wm.between b one x).map eD)
    · walk_at "go"
    · rw [List.map_map]
      apply x_lcM (List.range x) (fun i => RD.dat (eN i)) (fun one => eD (Wm.between b one x))
      · apply xi_rngN
        · walk_at "go"
        · omega
      · walk_at "go"
      · intro k hk
        have hk' := List.mem_range.mp hk
        walk_at "go"
      · rw [List.length_range]; omega
    · rfl
    · rfl
    · rfl
    · rw [List.length_map, List.length_map, List.length_map, List.length_range]
      unfold big
      omega
    · refine ⟨?_, _, _, rfl⟩
      rw [List.range_succ, List.flatMap_append, List.map_append, List.flatMap_cons, List.flatMap_nil, List.append_nil]
      rfl
  · rintro G' M' ⟨rfl, y, z, rfl⟩
    refine ⟨[], _, rfl, rfl, ?_⟩
    apply y_ret
    · walk_at "go"
    · show _ = _
      rw [List.length_range]
      rfl
end
end Wk
end
section
set_option Elab.async false
set_option linter.all false
set_option autoImplicit false
set_option maxRecDepth 100000
set_option maxHeartbeats 4000000
namespace Wk
open PySem L2 Wp Wm
/-! ### the words of the evaluation -/
local macro_rules | `(tactic| walk_at "sd") => `(tactic| first
  | assumption
  | exact trivial
  | exact rfl
  | omega
  | (refine ⟨?_, ?_⟩ <;> (walk_at "sd")))
local macro_rules | `(tactic| walk_at "g1") => `(tactic| first
  | ((with_reducible apply ev_var); exact rfl)
  | with_reducible exact ev_int
  | with_reducible exact ev_str
  | with_reducible exact ev_bl
  | with_reducible exact ev_non
  | with_reducible exact ev_raw
  | exact ev_int
  | with_reducible exact xa_nil
  | with_reducible exact xd_nil
  | with_reducible exact eo_none
  | with_reducible apply x_op
  | with_reducible apply x_cb
  | with_reducible apply x_call
  | with_reducible apply x_tup
  | with_reducible apply x_lst
  | with_reducible apply xa_cons
  | with_reducible apply xd_cons
  | with_reducible apply xo_some
  | with_reducible apply x_un
  | with_reducible apply x_sl
  | with_reducible apply x_if
  | with_reducible apply x_and
  | with_reducible apply x_or
  | with_reducible apply x_not
  | with_reducible apply x_chain
  | with_reducible apply xt_test
  | with_reducible apply xt_B
  | with_reducible apply xt_not
  | with_reducible apply xt_and
  | with_reducible apply xt_or
  | ((with_reducible refine fun _ => ?_); first | with_reducible show EvG _ _ _ _ _ _ _ | with_reducible show EtG _ _ _ _ _ _ _)
  | ((with_reducible refine fun _ _ => ?_); first | with_reducible show TgW _ _ _ _ _ _ | with_reducible show EvG _ _ _ _ _ _ _ | with_reducible show EtG _ _ _ _ _ _ _)
  | exact rfl
  | assumption
  | exact ⟨_, rfl, rfl⟩
  | exact ⟨_, by assumption, rfl⟩
  | exact ⟨trivial, rfl⟩
  | exact Or.inl rfl
  | exact ⟨rfl, rfl, rfl⟩
  | exact ⟨by decide, rfl⟩
  | exact ⟨by assumption, rfl⟩
  | exact ⟨rfl, by assumption⟩
  | exact ⟨rfl, by decide⟩
  | (show List.length _ ≤ 1000; exact Nat.le_of_ble_eq_true rfl)
  | fail "open")
local macro_rules | `(tactic| walk_at "go") => `(tactic| repeat' (walk_at "g1"))
local macro_rules | `(tactic| walk_at "g1") => `(tactic| ((with_reducible apply ix_pin); (try (walk_at "sd"))))
local macro_rules | `(tactic| walk_at "g1") => `(tactic| first
  | with_reducible exact tw_name
  | with_reducible apply tw_tup
  | with_reducible exact tws_nil
  | with_reducible apply tws_cons
  | with_reducible exact tg_name
  | with_reducible apply tg_tup
  | with_reducible exact tgs_nil
  | with_reducible apply tgs_cons
  | with_reducible exact r_all _ _
  | with_reducible exact r_sum _ _
  | with_reducible exact r_len _
  | with_reducible exact r_lenT _)
local macro_rules | `(tactic| walk_at "g1") => `(tactic| first
  | with_reducible exact dEq_wayL _
  | with_reducible exact dEq_wordA _
  | with_reducible exact dEq_wordB _
  | with_reducible exact dEq_int _ _
  | with_reducible exact dNe_int _ _
  | with_reducible exact dEq_bool _ _
  | with_reducible exact r_all2 _ _ _
  | with_reducible exact dIn_nats _ _
  | with_reducible exact dNotIn_nats _ _)
local macro_rules | `(tactic| walk_at "g1") => `(tactic| first
  | ((with_reducible apply dMod_at); (walk_at "sd"))
  | ((with_reducible apply dDiv_at); (walk_at "sd"))
  | ((with_reducible apply dMul_at); (walk_at "sd")))

section
variable {P : Program} {w : World} {K : PySem.W.Frag} {mg : Str → Option Value} {base : Heap}
local macro_rules | `(tactic| walk_at "g1") => `(tactic| ((with_reducible apply r_is_whole); (try (walk_at "sd"))))
local macro_rules | `(tactic| walk_at "g1") => `(tactic| ((with_reducible apply r_is_within); (try (walk_at "sd"))))
local macro_rules | `(tactic| walk_at "g1") => `(tactic| ((with_reducible apply r_is_long); (try (walk_at "sd"))))
local macro_rules | `(tactic| walk_at "g1") => `(tactic| ((with_reducible apply r_rises); (try (walk_at "sd"))))
local macro_rules | `(tactic| walk_at "g1") => `(tactic| ((with_reducible apply r_is_way); (try (walk_at "sd"))))
local macro_rules | `(tactic| walk_at "g1") => `(tactic| ((with_reducible apply r_other_way); (try (walk_at "sd"))))
local macro_rules | `(tactic| walk_at "g1") => `(tactic| ((with_reducible apply r_is_pin_by); (try (walk_at "sd"))))
local macro_rules | `(tactic| walk_at "g1") => `(tactic| ((with_reducible apply r_cross); (try (walk_at "sd"))))
local macro_rules | `(tactic| walk_at "g1") => `(tactic| ((with_reducible apply r_between); (try (walk_at "sd"))))
local macro_rules | `(tactic| walk_at "g1") => `(tactic| ((with_reducible apply r_pairs_of); (try (walk_at "sd"))))
def F_is_board : List RD → RD → Prop := fun aa zz => ∃ (b : Board), (Valid b) ∧ aa = [.dat (eB b)] ∧ zz = .dat (.bool true)
theorem r_is_board (b : Board) (hc : Valid b) : F_is_board [.dat (eB b)] (.dat (.bool true)) := ⟨b, hc, rfl, rfl⟩
abbrev sp_is_board (K : PySem.W.Frag) : Sp := spD K F_is_board
local macro_rules | `(tactic| walk_at "g1") => `(tactic| ((with_reducible apply r_is_board); (try (walk_at "sd"))))
theorem sc_is_board : FnScope ["thing", "some", "one", "at", "other"] ["thing"] (defScope s_is_board) := ⟨rfl, rfl, rfl, by decide +kernel, rfl, by decide +kernel, by decide +kernel⟩
-- slots: 0 thing, 1 some, 2 one, 3 at, 4 other
theorem df_is_board (T : Tx K mg) (df_cross : Df P w K mg base "cross" 1 ["one", "other"] (sp_cross K)) (df_is_long : Df P w K mg base "is_long" 1 ["thing", "least", "most"] (sp_is_long K)) (df_is_pin_by : Df P w K mg base "is_pin_by" 3 ["thing"] (sp_is_pin_by K)) (df_pairs_of : Df P w K mg base "pairs_of" 2 ["board"] (sp_pairs_of K)) : Df P w K mg base "is_board" 4 ["thing"] (sp_is_board K) := by
  obtain ⟨f, fd, hm, F⟩ := T.d_is_board
  refine ⟨f, fd, hm, F.kp, F.binds (ps := ["thing"]) (fun _ _ _ _ _ _ us hl => match us, hl with | [_], _ => rfl), F.ok sc_is_board (fun vs H Q E h => ?_) (fun cdv A outer s H vs Q E hr h => ?_)⟩
  · obtain ⟨H0, aa, zz, s0, hd, ⟨b, hc, rfl, rfl⟩, q⟩ := h
    exact hd.length
  obtain ⟨H0, aa, zz, s0, hd, ⟨b, hc, rfl, rfl⟩, q⟩ := h
  refine ⟨_, (pss_cons (ps_if (PW.pt (pw_or (pt_not (pt_val (pe_df df_is_long (hr.mono (by decide)) (by rfl) (pa_cons (pv 0) (pa_cons (pe_gint (by rfl) T.c_FEWEST_PINS) (pa_cons (pe_gint (by rfl) T.c_MOST_PINS) pa_nil)))))) (pw_or1 (pt_not (pt_val (pe_callB (cK (cD_all rfl) (K := K)) (by rfl) T.z_all (by decide +kernel) (pa_cons (pe_lc (own := [("one", 2)]) (g := (gName 2)) (tt := tYes) rfl sc_is_board.nd (kSeq (pv 0) (K := K)) (blkOk_by (show blkC ["thing", "some", "one", "at", "other"] (defScope s_is_board) _ _ = true by decide +kernel)) (fun _ _ _ _ _ => (pg_name (i := 2) sc_is_board.nd rfl (by first | exact Or.inl rfl | exact Or.inr rfl))) (fun _ _ _ _ _ => pts_nil) (fun _ _ _ _ _ => (pe_df df_is_pin_by (hr.mono (by decide)) (by rfl) (pa_cons (pv 2) pa_nil)))) pa_nil))))))) (pss_one (ps_ret pe_bl)) pss_nil) (pss_cons (ps_asg (pe_df df_pairs_of (hr.mono (by decide)) (by rfl) (pa_cons (pv 0) pa_nil)) (pg_name (i := 1) sc_is_board.nd rfl (by first | exact Or.inl rfl | exact Or.inr rfl))) (pss_one (ps_ret (pe_callB (cK (cD_all rfl) (K := K)) (by rfl) T.z_all (by decide +kernel) (pa_cons (pe_lc2 (own := [("at", 3), ("one", 2), ("other", 4)]) (g := (gTup K 2 (gCons (gName 3) (gCons (gName 2) gNil)))) (tt := tYes) (g1 := (gName 4)) (vs1 := [4]) (tt1 := tYes) rfl sc_is_board.nd (kEnum (by rfl) T.z_enumerate (pa_cons (pv 1) pa_nil) (ek := rfl) (K := K)) (blkOk_by (show blkC ["thing", "some", "one", "at", "other"] (defScope s_is_board) _ _ = true by decide +kernel)) (by decide) (fun _ _ _ _ _ => (kTup (K := K) 2 rfl (pgs_cons (pg_name (i := 3) sc_is_board.nd rfl (by first | exact Or.inl rfl | exact Or.inr rfl)) (pgs_cons (pg_name (i := 2) sc_is_board.nd rfl (by first | exact Or.inl rfl | exact Or.inr rfl)) pgs_nil)))) (fun _ _ _ _ _ => pts_nil) (fun _ _ _ _ _ => (kSeq (pe_slice (lK slD (K := K)) (pv 1) po_none (po_some (pv 3))) (K := K))) (fun _ _ _ _ _ => (pg_name (i := 4) sc_is_board.nd rfl (by first | exact Or.inl rfl | exact Or.inr rfl))) (fun _ _ _ _ _ => pts_nil) (fun _ _ _ _ _ => (pe_cmpR (oK (oD_ne hr.units) (K := K)) (pe_df df_cross (hr.mono (by decide)) (by rfl) (pa_cons (pv 2) (pa_cons (pv 4) pa_nil))) pe_int (nomark _)))) pa_nil)))))), ?_⟩
  refine body_end s0 hd q ?_
  apply y_skip (b := (!(decide ((3 : Int) ≤ b.length) && decide ((b.length : Int) ≤ 8))) || !(b.all fun _ => true))
  · refine xt_or (xt_not (xt_B ?_)) fun _ => xt_not (xt_B ?_)
    · refine x_call (ds := [.dat (eB b), .dat (.int 3), .dat (.int 8)]) ?_ ?_
      · walk_at "go"
      · have := r_is_long (b.map eP) 3 8 trivial
        rw [List.length_map] at this
        exact this
    · refine x_cb (xa_cons ?_ xa_nil) (r_all _ _)
      apply x_lcM b (fun p => RD.dat (eP p)) (fun _ => .bool true)
      · apply xi_tupE
        walk_at "go"
      · walk_at "go"
      · intro p hp
        have := hc.place p hp
        refine x_call (ds := [.dat (eP p)]) ?_ (r_is_pin_by p this)
        walk_at "go"
      · have := hc.most; omega
  · have h1 := hc.few
    have h2 := hc.most
    have e : (b.all fun _ => true) = true := List.all_eq_true.mpr fun _ _ => rfl
    rw [e, decide_eq_true (show (3 : Int) ≤ b.length by omega), decide_eq_true (show (b.length : Int) ≤ 8 by omega)]
    rfl
  have h2 := hc.most
  apply y_set1
  · refine x_call (ds := [.dat (eB b)]) ?_ (r_pairs_of b (by omega))
    walk_at "go"
  apply y_retE (r0 := .dat (.bool ((pairsOf b).zipIdx.all fun p => ((pairsOf b).take p.2).all fun o => !decide (Wm.cross p.1 o = 0))))
  · refine x_cb (xa_cons ?_ xa_nil) (r_all2 _ _ _)
    apply x_lc2M (pairsOf b).zipIdx (fun p => RD.dat (.tuple [eN p.2, eD p.1])) (fun p => (pairsOf b).take p.2) (fun _ o => RD.dat (eD o)) (fun p o => .bool (!decide (Wm.cross p.1 o = 0)))
    · apply xi_enumL
      walk_at "go"
    · walk_at "go"
    · intro p hp
      apply xi_listE
      rw [List.map_take]
      refine ev_is (r := .dat (.list (cutD ((pairsOf b).map eD) none (some (p.2 : Int))))) ?_ ?_
      · walk_at "go"
      · rw [cut_upto]
    · intro p hp o ho
      walk_at "go"
    · intro p hp o ho
      have := hc.pairSm (List.mem_of_mem_take ho)
      walk_at "go"
    · have h3 := pairs_few b h2
      refine Nat.le_trans (flat_few 800 _ _ fun p hp => ?_) ?_
      · rw [List.length_map, List.length_take]; omega
      · rw [List.length_zipIdx]; omega
  · refine congrArg (fun z => RD.dat (.bool z)) (List.all_eq_true.mpr fun p hp => List.all_eq_true.mpr fun o ho => ?_)
    have e1 := List.mem_zipIdx_iff_getElem?.mp hp
    obtain ⟨j, hj⟩ := List.getElem?_of_mem ho
    have hlt : j < p.2 := by
      have := (List.getElem?_eq_some_iff.mp hj).1
      rw [List.length_take] at this
      omega
    rw [List.getElem?_take_of_lt hlt] at hj
    have := hc.pairs (by omega) e1 hj
    rw [decide_eq_false this]
    rfl
  · rfl
def F_need_board : List RD → RD → Prop := fun aa zz => ∃ (b : Board), (Valid b) ∧ aa = [.dat (eB b)] ∧ zz = .dat .none
theorem r_need_board (b : Board) (hc : Valid b) : F_need_board [.dat (eB b)] (.dat .none) := ⟨b, hc, rfl, rfl⟩
abbrev sp_need_board (K : PySem.W.Frag) : Sp := spD K F_need_board
local macro_rules | `(tactic| walk_at "g1") => `(tactic| ((with_reducible apply r_need_board); (try (walk_at "sd"))))
theorem sc_need_board : FnScope ["thing"] ["thing"] (defScope s_need_board) := ⟨rfl, rfl, rfl, by decide +kernel, rfl, by decide +kernel, by decide +kernel⟩
-- slots: 0 thing
theorem df_need_board (T : Tx K mg) (df_is_board : Df P w K mg base "is_board" 4 ["thing"] (sp_is_board K)) : Df P w K mg base "need_board" 5 ["thing"] (sp_need_board K) := by
  obtain ⟨f, fd, hm, F⟩ := T.d_need_board
  refine ⟨f, fd, hm, F.kp, F.binds (ps := ["thing"]) (fun _ _ _ _ _ _ us hl => match us, hl with | [_], _ => rfl), F.ok sc_need_board (fun vs H Q E h => ?_) (fun cdv A outer s H vs Q E hr h => ?_)⟩
  · obtain ⟨H0, aa, zz, s0, hd, ⟨b, hc, rfl, rfl⟩, q⟩ := h
    exact hd.length
  obtain ⟨H0, aa, zz, s0, hd, ⟨b, hc, rfl, rfl⟩, q⟩ := h
  refine ⟨_, (pss_one (ps_if (pt_not (pt_val (pe_df df_is_board (hr.mono (by decide)) (by rfl) (pa_cons (pv 0) pa_nil)))) (pss_one ps_never) pss_nil)), ?_⟩
  refine body_endN s0 hd q ?_
  apply y_skipE
  · walk_at "go"
  · rfl
  · exact .inl ⟨_, rfl⟩
def F_need_pins : List RD → RD → Prop := fun aa zz => ∃ (b : Board) (r : List Nat), (b.length ≤ 8 ∧ r.Pairwise (· < ·) ∧ ∀ x ∈ r, x < b.length) ∧ aa = [.dat (eB b), .dat (eR r)] ∧ zz = .dat .none
theorem r_need_pins (b : Board) (r : List Nat) (hc : b.length ≤ 8 ∧ r.Pairwise (· < ·) ∧ ∀ x ∈ r, x < b.length) : F_need_pins [.dat (eB b), .dat (eR r)] (.dat .none) := ⟨b, r, hc, rfl, rfl⟩
abbrev sp_need_pins (K : PySem.W.Frag) : Sp := spD K F_need_pins
local macro_rules | `(tactic| walk_at "g1") => `(tactic| ((with_reducible apply r_need_pins); (try (walk_at "sd"))))
theorem sc_need_pins : FnScope ["board", "thing", "one"] ["board", "thing"] (defScope s_need_pins) := ⟨rfl, rfl, rfl, by decide +kernel, rfl, by decide +kernel, by decide +kernel⟩
-- slots: 0 board, 1 thing, 2 one
theorem df_need_pins (T : Tx K mg) (df_is_within : Df P w K mg base "is_within" 2 ["thing", "least", "most"] (sp_is_within K)) (df_rises : Df P w K mg base "rises" 1 ["row"] (sp_rises K)) : Df P w K mg base "need_pins" 3 ["board", "thing"] (sp_need_pins K) := by
  obtain ⟨f, fd, hm, F⟩ := T.d_need_pins
  refine ⟨f, fd, hm, F.kp, F.binds (ps := ["board", "thing"]) (fun _ _ _ _ _ _ us hl => match us, hl with | [_, _], _ => rfl), F.ok sc_need_pins (fun vs H Q E h => ?_) (fun cdv A outer s H vs Q E hr h => ?_)⟩
  · obtain ⟨H0, aa, zz, s0, hd, ⟨b, r, hc, rfl, rfl⟩, q⟩ := h
    exact hd.length
  obtain ⟨H0, aa, zz, s0, hd, ⟨b, r, hc, rfl, rfl⟩, q⟩ := h
  refine ⟨_, (pss_cons (ps_if (PW.pt (pw_or (pt_not (pt_val (pe_callB (cK cD_isi (K := K)) (by rfl) T.z_isinstance (by decide +kernel) (pa_cons (pv 1) (pa_cons (pe_bltn (v := .ty "tuple") (by rfl) T.z_tuple (by decide +kernel) rfl) pa_nil))))) (pw_or1 (pt_not (pt_val (pe_callB (cK (cD_all rfl) (K := K)) (by rfl) T.z_all (by decide +kernel) (pa_cons (pe_lc (own := [("one", 2)]) (g := (gName 2)) (tt := tYes) rfl sc_need_pins.nd (kSeq (pv 1) (K := K)) (blkOk_by (show blkC ["board", "thing", "one"] (defScope s_need_pins) _ _ = true by decide +kernel)) (fun _ _ _ _ _ => (pg_name (i := 2) sc_need_pins.nd rfl (by first | exact Or.inl rfl | exact Or.inr rfl))) (fun _ _ _ _ _ => pts_nil) (fun _ _ _ _ _ => (pe_df df_is_within (hr.mono (by decide)) (by rfl) (pa_cons (pv 2) (pa_cons pe_int (pa_cons (pe_op (oK oD_sub (K := K)) (pe_callB (cK cD_lenA (K := K) (R' := fLenA P w)) (by rfl) T.z_len (by decide +kernel) (pa_cons (pv 0) pa_nil)) pe_int) pa_nil)))))) pa_nil))))))) (pss_one ps_never) pss_nil) (pss_one (ps_if (pt_not (pt_val (pe_df df_rises (hr.mono (by decide)) (by rfl) (pa_cons (pv 1) pa_nil)))) (pss_one ps_never) pss_nil))), ?_⟩
  refine body_endN s0 hd q ?_
  obtain ⟨h1, h2, h3⟩ := hc
  have hl : r.length ≤ 1000 := by
    have h5 : r.length ≤ b.length := by
      have := List.Nodup.length_le_of_subset (h2.imp fun h => Nat.ne_of_lt h) (l₂ := List.range b.length) fun x hx => List.mem_range.mpr (h3 x hx)
      rwa [List.length_range] at this
    omega
  apply y_skip (b := (!true) || !(r.all fun x => decide ((0 : Int) ≤ x) && decide ((x : Int) ≤ (b.length : Int) - 1)))
  · refine xt_or ?_ fun _ => xt_not (xt_B ?_)
    · walk_at "go"
    · refine x_cb (xa_cons ?_ xa_nil) (r_all _ _)
      apply x_lcM r (fun p => RD.dat (eN p)) (fun x => .bool (decide ((0 : Int) ≤ x) && decide ((x : Int) ≤ (b.length : Int) - 1)))
      · apply xi_tupE
        walk_at "go"
      · walk_at "go"
      · intro p hp
        walk_at "go"
      · omega
  · rw [show (r.all fun x => decide ((0 : Int) ≤ x) && decide ((x : Int) ≤ (b.length : Int) - 1)) = true from List.all_eq_true.mpr fun x hx => ?_]
    · rfl
    · have := h3 x hx
      rw [decide_eq_true (show (0 : Int) ≤ x by omega), decide_eq_true (show (x : Int) ≤ (b.length : Int) - 1 by omega)]
      rfl
  apply y_skipE
  · refine xt_not (xt_B (x_call (ds := [.dat (eR r)]) ?_ (r_rises r ⟨h2, hl⟩)))
    walk_at "go"
  · rfl
  · exact .inl ⟨_, rfl⟩
def F_with_ways_by : List RD → RD → Prop := fun aa zz => ∃ (b : Board) (r : List Nat), (b.length ≤ 8) ∧ aa = [.dat (eB b), .dat (eR r)] ∧ zz = .dat (eB (withWays b r))
theorem r_with_ways_by (b : Board) (r : List Nat) (hc : b.length ≤ 8) : F_with_ways_by [.dat (eB b), .dat (eR r)] (.dat (eB (withWays b r))) := ⟨b, r, hc, rfl, rfl⟩
abbrev sp_with_ways_by (K : PySem.W.Frag) : Sp := spD K F_with_ways_by
local macro_rules | `(tactic| walk_at "g1") => `(tactic| ((with_reducible apply r_with_ways_by); (try (walk_at "sd"))))
theorem sc_with_ways_by : FnScope ["board", "pins", "at", "x", "y", "way"] ["board", "pins"] (defScope s_with_ways_by) := ⟨rfl, rfl, rfl, by decide +kernel, rfl, by decide +kernel, by decide +kernel⟩
-- slots: 0 board, 1 pins, 2 at, 3 x, 4 y, 5 way
theorem df_with_ways_by (T : Tx K mg) (df_other_way : Df P w K mg base "other_way" 1 ["way"] (sp_other_way K)) : Df P w K mg base "with_ways_by" 2 ["board", "pins"] (sp_with_ways_by K) := by
  obtain ⟨f, fd, hm, F⟩ := T.d_with_ways_by
  refine ⟨f, fd, hm, F.kp, F.binds (ps := ["board", "pins"]) (fun _ _ _ _ _ _ us hl => match us, hl with | [_, _], _ => rfl), F.ok sc_with_ways_by (fun vs H Q E h => ?_) (fun cdv A outer s H vs Q E hr h => ?_)⟩
  · obtain ⟨H0, aa, zz, s0, hd, ⟨b, r, hc, rfl, rfl⟩, q⟩ := h
    exact hd.length
  obtain ⟨H0, aa, zz, s0, hd, ⟨b, r, hc, rfl, rfl⟩, q⟩ := h
  refine ⟨_, (pss_one (ps_ret (pe_callTy (cK cD_tuple (K := K)) (by rfl) T.z_tuple (by decide +kernel) (pa_cons (pe_lc (own := [("at", 2), ("x", 3), ("y", 4), ("way", 5)]) (g := (gTup K 2 (gCons (gName 2) (gCons (gTup K 3 (gCons (gName 3) (gCons (gName 4) (gCons (gName 5) gNil)))) gNil)))) (tt := tYes) rfl sc_with_ways_by.nd (kEnum (by rfl) T.z_enumerate (pa_cons (pv 0) pa_nil) (ek := rfl) (K := K)) (blkOk_by (show blkC ["board", "pins", "at", "x", "y", "way"] (defScope s_with_ways_by) _ _ = true by decide +kernel)) (fun _ _ _ _ _ => (kTup (K := K) 2 rfl (pgs_cons (pg_name (i := 2) sc_with_ways_by.nd rfl (by first | exact Or.inl rfl | exact Or.inr rfl)) (pgs_cons (kTup (K := K) 3 rfl (pgs_cons (pg_name (i := 3) sc_with_ways_by.nd rfl (by first | exact Or.inl rfl | exact Or.inr rfl)) (pgs_cons (pg_name (i := 4) sc_with_ways_by.nd rfl (by first | exact Or.inl rfl | exact Or.inr rfl)) (pgs_cons (pg_name (i := 5) sc_with_ways_by.nd rfl (by first | exact Or.inl rfl | exact Or.inr rfl)) pgs_nil)))) pgs_nil)))) (fun _ _ _ _ _ => pts_nil) (fun _ _ _ _ _ => (pe_tup (pa_cons (pv 3) (pa_cons (pv 4) (pa_cons (pe_ifExp (pt_cmpR (oK (oD_in (u65 hr)) (K := K)) (pv 2) (pv 1) (by rfl)) (pe_df df_other_way (hr.mono (by decide)) (by rfl) (pa_cons (pv 5) pa_nil)) (pv 5)) pa_nil)))))) pa_nil)))), ?_⟩
  refine body_end s0 hd q ?_
  apply y_retE
  · refine x_cb (R := fTuple) (xa_cons (r := .dat (.list (b.zipIdx.map fun p => .tuple [.int p.1.x, .int p.1.y, if decide (p.2 ∈ r) = true then eW p.1.way.flip else eW p.1.way]))) ?_ xa_nil) rfl
    apply x_lcM b.zipIdx (fun p => RD.dat (.tuple [eN p.2, eP p.1])) (fun p => .tuple [.int p.1.x, .int p.1.y, if decide (p.2 ∈ r) = true then eW p.1.way.flip else eW p.1.way])
    · apply xi_enumT
      walk_at "go"
    · walk_at "go"
    · intro p hp
      walk_at "go"
    · rw [List.length_zipIdx]; omega
  · refine congrArg (fun z => RD.dat (.tuple z)) (a₂ := (withWays b r).map eP) ?_
    unfold withWays
    apply List.ext_getElem?
    intro i
    rw [List.getElem?_map, List.getElem?_map, List.getElem?_zipIdx, List.getElem?_mapIdx]
    cases b[i]? with
    | none => rfl
    | some p =>
      show some _ = some _
      rw [Nat.zero_add]
      by_cases h : i ∈ r
      · simp [h]
      · simp [h]
  · rfl
def F_with_ways : List RD → RD → Prop := fun aa zz => ∃ (b : Board) (r : List Nat), (Valid b ∧ r.Pairwise (· < ·) ∧ ∀ x ∈ r, x < b.length) ∧ aa = [.dat (eB b), .dat (eR r)] ∧ zz = .dat (eB (withWays b r))
theorem r_with_ways (b : Board) (r : List Nat) (hc : Valid b ∧ r.Pairwise (· < ·) ∧ ∀ x ∈ r, x < b.length) : F_with_ways [.dat (eB b), .dat (eR r)] (.dat (eB (withWays b r))) := ⟨b, r, hc, rfl, rfl⟩
abbrev sp_with_ways (K : PySem.W.Frag) : Sp := spD K F_with_ways
local macro_rules | `(tactic| walk_at "g1") => `(tactic| ((with_reducible apply r_with_ways); (try (walk_at "sd"))))
theorem sc_with_ways : FnScope ["board", "pins"] ["board", "pins"] (defScope s_with_ways) := ⟨rfl, rfl, rfl, by decide +kernel, rfl, by decide +kernel, by decide +kernel⟩
-- slots: 0 board, 1 pins
theorem df_with_ways (T : Tx K mg) (df_need_board : Df P w K mg base "need_board" 5 ["thing"] (sp_need_board K)) (df_need_pins : Df P w K mg base "need_pins" 3 ["board", "thing"] (sp_need_pins K)) (df_with_ways_by : Df P w K mg base "with_ways_by" 2 ["board", "pins"] (sp_with_ways_by K)) : Df P w K mg base "with_ways" 6 ["board", "pins"] (sp_with_ways K) := by
  obtain ⟨f, fd, hm, F⟩ := T.d_with_ways
  refine ⟨f, fd, hm, F.kp, F.binds (ps := ["board", "pins"]) (fun _ _ _ _ _ _ us hl => match us, hl with | [_, _], _ => rfl), F.ok sc_with_ways (fun vs H Q E h => ?_) (fun cdv A outer s H vs Q E hr h => ?_)⟩
  · obtain ⟨H0, aa, zz, s0, hd, ⟨b, r, hc, rfl, rfl⟩, q⟩ := h
    exact hd.length
  obtain ⟨H0, aa, zz, s0, hd, ⟨b, r, hc, rfl, rfl⟩, q⟩ := h
  refine ⟨_, (pss_cons (ps_expr (pe_df df_need_board (hr.mono (by decide)) (by rfl) (pa_cons (pv 0) pa_nil))) (pss_cons (ps_expr (pe_df df_need_pins (hr.mono (by decide)) (by rfl) (pa_cons (pv 0) (pa_cons (pv 1) pa_nil)))) (pss_one (ps_ret (pe_df df_with_ways_by (hr.mono (by decide)) (by rfl) (pa_cons (pv 0) (pa_cons (pv 1) pa_nil))))))), ?_⟩
  refine body_end s0 hd q ?_
  obtain ⟨h1, h2, h3⟩ := hc
  have h4 := h1.most
  apply y_drop1
  · walk_at "go"
  apply y_drop1
  · refine x_call (ds := [.dat (eB b), .dat (eR r)]) ?_ (r_need_pins b r ⟨h4, h2, h3⟩)
    walk_at "go"
  apply y_ret
  · walk_at "go"
  · rfl
def F_mirrored : List RD → RD → Prop := fun aa zz => ∃ (b : Board), (Valid b) ∧ aa = [.dat (eB b)] ∧ zz = .dat (eB (Wm.mirrored b))
theorem r_mirrored (b : Board) (hc : Valid b) : F_mirrored [.dat (eB b)] (.dat (eB (Wm.mirrored b))) := ⟨b, hc, rfl, rfl⟩
abbrev sp_mirrored (K : PySem.W.Frag) : Sp := spD K F_mirrored
local macro_rules | `(tactic| walk_at "g1") => `(tactic| ((with_reducible apply r_mirrored); (try (walk_at "sd"))))
theorem sc_mirrored : FnScope ["board", "x", "y", "way"] ["board"] (defScope s_mirrored) := ⟨rfl, rfl, rfl, by decide +kernel, rfl, by decide +kernel, by decide +kernel⟩
-- slots: 0 board, 1 x, 2 y, 3 way
theorem df_mirrored (T : Tx K mg) (df_need_board : Df P w K mg base "need_board" 5 ["thing"] (sp_need_board K)) (df_other_way : Df P w K mg base "other_way" 1 ["way"] (sp_other_way K)) : Df P w K mg base "mirrored" 6 ["board"] (sp_mirrored K) := by
  obtain ⟨f, fd, hm, F⟩ := T.d_mirrored
  refine ⟨f, fd, hm, F.kp, F.binds (ps := ["board"]) (fun _ _ _ _ _ _ us hl => match us, hl with | [_], _ => rfl), F.ok sc_mirrored (fun vs H Q E h => ?_) (fun cdv A outer s H vs Q E hr h => ?_)⟩
  · obtain ⟨H0, aa, zz, s0, hd, ⟨b, hc, rfl, rfl⟩, q⟩ := h
    exact hd.length
  obtain ⟨H0, aa, zz, s0, hd, ⟨b, hc, rfl, rfl⟩, q⟩ := h
  refine ⟨_, (pss_cons (ps_expr (pe_df df_need_board (hr.mono (by decide)) (by rfl) (pa_cons (pv 0) pa_nil))) (pss_one (ps_ret (pe_callTy (cK cD_tuple (K := K)) (by rfl) T.z_tuple (by decide +kernel) (pa_cons (pe_lc (own := [("x", 1), ("y", 2), ("way", 3)]) (g := (gTup K 3 (gCons (gName 1) (gCons (gName 2) (gCons (gName 3) gNil))))) (tt := tYes) rfl sc_mirrored.nd (kSeq (pv 0) (K := K)) (blkOk_by (show blkC ["board", "x", "y", "way"] (defScope s_mirrored) _ _ = true by decide +kernel)) (fun _ _ _ _ _ => (kTup (K := K) 3 rfl (pgs_cons (pg_name (i := 1) sc_mirrored.nd rfl (by first | exact Or.inl rfl | exact Or.inr rfl)) (pgs_cons (pg_name (i := 2) sc_mirrored.nd rfl (by first | exact Or.inl rfl | exact Or.inr rfl)) (pgs_cons (pg_name (i := 3) sc_mirrored.nd rfl (by first | exact Or.inl rfl | exact Or.inr rfl)) pgs_nil))))) (fun _ _ _ _ _ => pts_nil) (fun _ _ _ _ _ => (pe_tup (pa_cons (pe_op (oK oD_sub (K := K)) (pe_gint (by rfl) T.c_MOST_PLACE) (pv 1)) (pa_cons (pv 2) (pa_cons (pe_df df_other_way (hr.mono (by decide)) (by rfl) (pa_cons (pv 3) pa_nil)) pa_nil)))))) pa_nil))))), ?_⟩
  refine body_end s0 hd q ?_
  have h4 := hc.most
  apply y_drop1
  · walk_at "go"
  apply y_retE
  · refine x_cb (R := fTuple) (xa_cons (r := .dat (.list (b.map fun p => .tuple [.int (99 - p.x), .int p.y, eW p.way.flip]))) ?_ xa_nil) rfl
    apply x_lcM b (fun p => RD.dat (eP p)) (fun p => .tuple [.int (99 - p.x), .int p.y, eW p.way.flip])
    · apply xi_tupE
      walk_at "go"
    · walk_at "go"
    · intro p hp
      walk_at "go"
    · omega
  · refine congrArg (fun z => RD.dat (.tuple z)) (a₂ := (Wm.mirrored b).map eP) ?_
    unfold Wm.mirrored
    rw [List.map_map]
    rfl
  · rfl
end
end Wk
end
section
set_option Elab.async false
set_option linter.all false
set_option autoImplicit false
set_option maxRecDepth 100000
set_option maxHeartbeats 4000000
namespace Wk
open PySem L2 Wp Wm
/-! ### the words of the evaluation -/
local macro_rules | `(tactic| walk_at "sd") => `(tactic| first
  | assumption
  | exact trivial
  | exact rfl
  | omega
  | (refine ⟨?_, ?_⟩ <;> (walk_at "sd")))
local macro_rules | `(tactic| walk_at "g1") => `(tactic| first
  | ((with_reducible apply ev_var); exact rfl)
  | with_reducible exact ev_int
  | with_reducible exact ev_str
  | with_reducible exact ev_bl
  | with_reducible exact ev_non
  | with_reducible exact ev_raw
  | exact ev_int
  | with_reducible exact xa_nil
  | with_reducible exact xd_nil
  | with_reducible exact eo_none
  | with_reducible apply x_op
  | with_reducible apply x_cb
  | with_reducible apply x_call
  | with_reducible apply x_tup
  | with_reducible apply x_lst
  | with_reducible apply xa_cons
  | with_reducible apply xd_cons
  | with_reducible apply xo_some
  | with_reducible apply x_un
  | with_reducible apply x_sl
  | with_reducible apply x_if
  | with_reducible apply x_and
  | with_reducible apply x_or
  | with_reducible apply x_not
  | with_reducible apply x_chain
  | with_reducible apply xt_test
  | with_reducible apply xt_B
  | with_reducible apply xt_not
  | with_reducible apply xt_and
  | with_reducible apply xt_or
  | ((with_reducible refine fun _ => ?_); first | with_reducible show EvG _ _ _ _ _ _ _ | with_reducible show EtG _ _ _ _ _ _ _)
  | ((with_reducible refine fun _ _ => ?_); first | with_reducible show TgW _ _ _ _ _ _ | with_reducible show EvG _ _ _ _ _ _ _ | with_reducible show EtG _ _ _ _ _ _ _)
  | exact rfl
  | assumption
  | exact ⟨_, rfl, rfl⟩
  | exact ⟨_, by assumption, rfl⟩
  | exact ⟨trivial, rfl⟩
  | exact Or.inl rfl
  | exact ⟨rfl, rfl, rfl⟩
  | exact ⟨by decide, rfl⟩
  | exact ⟨by assumption, rfl⟩
  | exact ⟨rfl, by assumption⟩
  | exact ⟨rfl, by decide⟩
  | (show List.length _ ≤ 1000; exact Nat.le_of_ble_eq_true rfl)
  | fail "open")
local macro_rules | `(tactic| walk_at "go") => `(tactic| repeat' (walk_at "g1"))
local macro_rules | `(tactic| walk_at "g1") => `(tactic| ((with_reducible apply ix_pin); (try (walk_at "sd"))))
local macro_rules | `(tactic| walk_at "g1") => `(tactic| first
  | with_reducible exact tw_name
  | with_reducible apply tw_tup
  | with_reducible exact tws_nil
  | with_reducible apply tws_cons
  | with_reducible exact tg_name
  | with_reducible apply tg_tup
  | with_reducible exact tgs_nil
  | with_reducible apply tgs_cons
  | with_reducible exact r_all _ _
  | with_reducible exact r_sum _ _
  | with_reducible exact r_len _
  | with_reducible exact r_lenT _)
local macro_rules | `(tactic| walk_at "g1") => `(tactic| first
  | with_reducible exact dEq_wayL _
  | with_reducible exact dEq_wordA _
  | with_reducible exact dEq_wordB _
  | with_reducible exact dEq_int _ _
  | with_reducible exact dNe_int _ _
  | with_reducible exact dEq_bool _ _
  | with_reducible exact r_all2 _ _ _
  | with_reducible exact dIn_nats _ _
  | with_reducible exact dNotIn_nats _ _)
local macro_rules | `(tactic| walk_at "g1") => `(tactic| first
  | ((with_reducible apply dMod_at); (walk_at "sd"))
  | ((with_reducible apply dDiv_at); (walk_at "sd"))
  | ((with_reducible apply dMul_at); (walk_at "sd")))

section
variable {P : Program} {w : World} {K : PySem.W.Frag} {mg : Str → Option Value} {base : Heap}
local macro_rules | `(tactic| walk_at "g1") => `(tactic| ((with_reducible apply r_is_whole); (try (walk_at "sd"))))
local macro_rules | `(tactic| walk_at "g1") => `(tactic| ((with_reducible apply r_is_within); (try (walk_at "sd"))))
local macro_rules | `(tactic| walk_at "g1") => `(tactic| ((with_reducible apply r_is_long); (try (walk_at "sd"))))
local macro_rules | `(tactic| walk_at "g1") => `(tactic| ((with_reducible apply r_rises); (try (walk_at "sd"))))
local macro_rules | `(tactic| walk_at "g1") => `(tactic| ((with_reducible apply r_is_way); (try (walk_at "sd"))))
local macro_rules | `(tactic| walk_at "g1") => `(tactic| ((with_reducible apply r_other_way); (try (walk_at "sd"))))
local macro_rules | `(tactic| walk_at "g1") => `(tactic| ((with_reducible apply r_is_pin_by); (try (walk_at "sd"))))
local macro_rules | `(tactic| walk_at "g1") => `(tactic| ((with_reducible apply r_cross); (try (walk_at "sd"))))
local macro_rules | `(tactic| walk_at "g1") => `(tactic| ((with_reducible apply r_between); (try (walk_at "sd"))))
local macro_rules | `(tactic| walk_at "g1") => `(tactic| ((with_reducible apply r_pairs_of); (try (walk_at "sd"))))
local macro_rules | `(tactic| walk_at "g1") => `(tactic| ((with_reducible apply r_is_board); (try (walk_at "sd"))))
local macro_rules | `(tactic| walk_at "g1") => `(tactic| ((with_reducible apply r_need_board); (try (walk_at "sd"))))
local macro_rules | `(tactic| walk_at "g1") => `(tactic| ((with_reducible apply r_need_pins); (try (walk_at "sd"))))
local macro_rules | `(tactic| walk_at "g1") => `(tactic| ((with_reducible apply r_with_ways_by); (try (walk_at "sd"))))
local macro_rules | `(tactic| walk_at "g1") => `(tactic| ((with_reducible apply r_with_ways); (try (walk_at "sd"))))
local macro_rules | `(tactic| walk_at "g1") => `(tactic| ((with_reducible apply r_mirrored); (try (walk_at "sd"))))
def F_other_word : List RD → RD → Prop := fun aa zz => ∃ (v : Word), (True) ∧ aa = [.dat (eO v)] ∧ zz = .dat (eO v.flip)
theorem r_other_word (v : Word) (hc : True) : F_other_word [.dat (eO v)] (.dat (eO v.flip)) := ⟨v, hc, rfl, rfl⟩
abbrev sp_other_word (K : PySem.W.Frag) : Sp := spD K F_other_word
local macro_rules | `(tactic| walk_at "g1") => `(tactic| ((with_reducible apply r_other_word); (try (walk_at "sd"))))
theorem sc_other_word : FnScope ["word"] ["word"] (defScope s_other_word) := ⟨rfl, rfl, rfl, by decide +kernel, rfl, by decide +kernel, by decide +kernel⟩
-- slots: 0 word
theorem df_other_word (T : Tx K mg) : Df P w K mg base "other_word" 1 ["word"] (sp_other_word K) := by
  obtain ⟨f, fd, hm, F⟩ := T.d_other_word
  refine ⟨f, fd, hm, F.kp, F.binds (ps := ["word"]) (fun _ _ _ _ _ _ us hl => match us, hl with | [_], _ => rfl), F.ok sc_other_word (fun vs H Q E h => ?_) (fun cdv A outer s H vs Q E hr h => ?_)⟩
  · obtain ⟨H0, aa, zz, s0, hd, ⟨v, hc, rfl, rfl⟩, q⟩ := h
    exact hd.length
  obtain ⟨H0, aa, zz, s0, hd, ⟨v, hc, rfl, rfl⟩, q⟩ := h
  refine ⟨_, (pss_one (ps_ret (pe_ifExp (pt_cmpR (oK (oD_eq hr.units) (K := K)) (pv 0) (pe_gstr (by rfl) T.c_AHEAD) (nomark _)) (pe_gstr (by rfl) T.c_BEHIND) (pe_gstr (by rfl) T.c_AHEAD)))), ?_⟩
  refine body_end s0 hd q ?_
  refine y_retE (r0 := .dat (if decide (v = .ahead) = true then PyData.str "behind" else .str "ahead")) ?_ ?_ rfl
  · walk_at "go"
  · exact congrArg RD.dat (flipO_if v)
def F_turned_about : List RD → RD → Prop := fun aa zz => ∃ (u : Dir), (True) ∧ aa = [.dat (eD u)] ∧ zz = .dat (eD (neg u))
theorem r_turned_about (u : Dir) (hc : True) : F_turned_about [.dat (eD u)] (.dat (eD (neg u))) := ⟨u, hc, rfl, rfl⟩
abbrev sp_turned_about (K : PySem.W.Frag) : Sp := spD K F_turned_about
local macro_rules | `(tactic| walk_at "g1") => `(tactic| ((with_reducible apply r_turned_about); (try (walk_at "sd"))))
theorem sc_turned_about : FnScope ["look"] ["look"] (defScope s_turned_about) := ⟨rfl, rfl, rfl, by decide +kernel, rfl, by decide +kernel, by decide +kernel⟩
-- slots: 0 look
theorem df_turned_about (T : Tx K mg) : Df P w K mg base "turned_about" 1 ["look"] (sp_turned_about K) := by
  obtain ⟨f, fd, hm, F⟩ := T.d_turned_about
  refine ⟨f, fd, hm, F.kp, F.binds (ps := ["look"]) (fun _ _ _ _ _ _ us hl => match us, hl with | [_], _ => rfl), F.ok sc_turned_about (fun vs H Q E h => ?_) (fun cdv A outer s H vs Q E hr h => ?_)⟩
  · obtain ⟨H0, aa, zz, s0, hd, ⟨u, hc, rfl, rfl⟩, q⟩ := h
    exact hd.length
  obtain ⟨H0, aa, zz, s0, hd, ⟨u, hc, rfl, rfl⟩, q⟩ := h
  refine ⟨_, (pss_one (ps_ret (pe_tup (pa_cons (pe_op (oK oD_sub (K := K)) pe_int (pe_ix (xK ixD (K := K)) (pv 0) pe_int (fun _ _ => rfl))) (pa_cons (pe_op (oK oD_sub (K := K)) pe_int (pe_ix (xK ixD (K := K)) (pv 0) pe_int (fun _ _ => rfl))) pa_nil))))), ?_⟩
  refine body_end s0 hd q ?_
  apply y_ret
  · walk_at "go"
  · rfl
def F_is_stand_by : List RD → RD → Prop := fun aa zz => ∃ (b : Board) (s : Stand), (StandOk b s) ∧ aa = [.dat (eB b), .dat (eS s)] ∧ zz = .dat (.bool true)
theorem r_is_stand_by (b : Board) (s : Stand) (hc : StandOk b s) : F_is_stand_by [.dat (eB b), .dat (eS s)] (.dat (.bool true)) := ⟨b, s, hc, rfl, rfl⟩
abbrev sp_is_stand_by (K : PySem.W.Frag) : Sp := spD K F_is_stand_by
local macro_rules | `(tactic| walk_at "g1") => `(tactic| ((with_reducible apply r_is_stand_by); (try (walk_at "sd"))))
theorem sc_is_stand_by : FnScope ["board", "thing", "one"] ["board", "thing"] (defScope s_is_stand_by) := ⟨rfl, rfl, rfl, by decide +kernel, rfl, by decide +kernel, by decide +kernel⟩
-- slots: 0 board, 1 thing, 2 one
theorem df_is_stand_by (T : Tx K mg) (df_is_long : Df P w K mg base "is_long" 1 ["thing", "least", "most"] (sp_is_long K)) (df_is_within : Df P w K mg base "is_within" 2 ["thing", "least", "most"] (sp_is_within K)) : Df P w K mg base "is_stand_by" 3 ["board", "thing"] (sp_is_stand_by K) := by
  obtain ⟨f, fd, hm, F⟩ := T.d_is_stand_by
  refine ⟨f, fd, hm, F.kp, F.binds (ps := ["board", "thing"]) (fun _ _ _ _ _ _ us hl => match us, hl with | [_, _], _ => rfl), F.ok sc_is_stand_by (fun vs H Q E h => ?_) (fun cdv A outer s H vs Q E hr h => ?_)⟩
  · obtain ⟨H0, aa, zz, s0, hd, ⟨b, s, hc, rfl, rfl⟩, q⟩ := h
    exact hd.length
  obtain ⟨H0, aa, zz, s0, hd, ⟨b, s, hc, rfl, rfl⟩, q⟩ := h
  refine ⟨_, (pss_cons (ps_if (PW.pt (pw_or (pt_not (pt_val (pe_df df_is_long (hr.mono (by decide)) (by rfl) (pa_cons (pv 1) (pa_cons (pe_gint (by rfl) T.c_LONG_STAND) (pa_cons (pe_gint (by rfl) T.c_LONG_STAND) pa_nil)))))) (pw_or (pt_not (pt_val (pe_callB (cK cD_isi (K := K)) (by rfl) T.z_isinstance (by decide +kernel) (pa_cons (pe_ix (xK ixD (K := K)) (pv 1) pe_int (fun _ _ => rfl)) (pa_cons (pe_bltn (v := .ty "str") (by rfl) T.z_str (by decide +kernel) rfl) pa_nil))))) (pw_or1 (pt_cmpR (oK (oD_notin (u65 hr)) (K := K)) (pe_ix (xK ixD (K := K)) (pv 1) pe_int (fun _ _ => rfl)) (pe_tup (pa_cons (pe_gstr (by rfl) T.c_AHEAD) (pa_cons (pe_gstr (by rfl) T.c_BEHIND) pa_nil))) (by rfl)))))) (pss_one (ps_ret pe_bl)) pss_nil) (pss_one (ps_ret (pe_and (pe_callB (cK (cD_all rfl) (K := K)) (by rfl) T.z_all (by decide +kernel) (pa_cons (pe_lc (own := [("one", 2)]) (g := (gName 2)) (tt := tYes) rfl sc_is_stand_by.nd (kSeq (pe_slice (lK slD (K := K)) (pv 1) po_none (po_some pe_int)) (K := K)) (blkOk_by (show blkC ["board", "thing", "one"] (defScope s_is_stand_by) _ _ = true by decide +kernel)) (fun _ _ _ _ _ => (pg_name (i := 2) sc_is_stand_by.nd rfl (by first | exact Or.inl rfl | exact Or.inr rfl))) (fun _ _ _ _ _ => pts_nil) (fun _ _ _ _ _ => (pe_df df_is_within (hr.mono (by decide)) (by rfl) (pa_cons (pv 2) (pa_cons pe_int (pa_cons (pe_op (oK oD_sub (K := K)) (pe_callB (cK cD_lenA (K := K) (R' := fLenA P w)) (by rfl) T.z_len (by decide +kernel) (pa_cons (pv 0) pa_nil)) pe_int) pa_nil)))))) pa_nil)) (pe_one (pe_cmpR (oK (oD_ne hr.units) (K := K)) (pe_ix (xK ixD (K := K)) (pv 1) pe_int (fun _ _ => rfl)) (pe_ix (xK ixD (K := K)) (pv 1) pe_int (fun _ _ => rfl)) (nomark _))))))), ?_⟩
  refine body_end s0 hd q ?_
  obtain ⟨h1, h2, h3⟩ := hc
  apply y_skip (b := (!(decide ((3 : Int) ≤ 3) && decide ((3 : Int) ≤ 3)) || (!true || false)))
  · refine xt_or (xt_not (xt_B (x_call (ds := [.dat (eS s), .dat (.int 3), .dat (.int 3)]) (by walk_at "go") (r_is_long _ 3 3 trivial)))) fun _ => xt_or (by walk_at "go") fun _ => xt_test (x_op (a := .dat (eO s.word)) (b := .dat (.tuple [.str "ahead", .str "behind"])) ?_ ?_ (dIn_words s.word))
    · walk_at "go"
    · walk_at "go"
  · rfl
  refine y_retE (r0 := .dat (.bool (([s.own, s.last].all fun x => decide ((0 : Int) ≤ x) && decide ((x : Int) ≤ (b.length : Int) - 1)) && !decide ((s.own : Int) = (s.last : Int))))) ?_ ?_ rfl
  · refine x_and ?_ fun _ => ?_
    · refine x_cb (xa_cons ?_ xa_nil) (r_all _ _)
      apply x_lcM [s.own, s.last] (fun p => RD.dat (eN p)) (fun x => .bool (decide ((0 : Int) ≤ x) && decide ((x : Int) ≤ (b.length : Int) - 1)))
      · apply xi_tupE
        refine ev_is (r := .dat (.tuple (cutD [eN s.own, eN s.last, eO s.word] none (some ((2 : Nat) : Int))))) ?_ ?_
        · walk_at "go"
        · rw [cut_upto]; rfl
      · walk_at "go"
      · intro p hp
        walk_at "go"
      · exact Nat.le_of_ble_eq_true rfl
    · walk_at "go"
  · rw [List.all_cons, List.all_cons, List.all_nil, decide_eq_true (show (0 : Int) ≤ s.own by omega), decide_eq_true (show (s.own : Int) ≤ (b.length : Int) - 1 by omega), decide_eq_true (show (0 : Int) ≤ s.last by omega), decide_eq_true (show (s.last : Int) ≤ (b.length : Int) - 1 by omega), decide_eq_false (show ¬ (s.own : Int) = s.last by omega)]
    rfl
def F_need_stand : List RD → RD → Prop := fun aa zz => ∃ (b : Board) (s : Stand), (Valid b ∧ StandOk b s) ∧ aa = [.dat (eB b), .dat (eS s)] ∧ zz = .dat .none
theorem r_need_stand (b : Board) (s : Stand) (hc : Valid b ∧ StandOk b s) : F_need_stand [.dat (eB b), .dat (eS s)] (.dat .none) := ⟨b, s, hc, rfl, rfl⟩
abbrev sp_need_stand (K : PySem.W.Frag) : Sp := spD K F_need_stand
local macro_rules | `(tactic| walk_at "g1") => `(tactic| ((with_reducible apply r_need_stand); (try (walk_at "sd"))))
theorem sc_need_stand : FnScope ["board", "thing"] ["board", "thing"] (defScope s_need_stand) := ⟨rfl, rfl, rfl, by decide +kernel, rfl, by decide +kernel, by decide +kernel⟩
-- slots: 0 board, 1 thing
theorem df_need_stand (T : Tx K mg) (df_is_stand_by : Df P w K mg base "is_stand_by" 3 ["board", "thing"] (sp_is_stand_by K)) (df_need_board : Df P w K mg base "need_board" 5 ["thing"] (sp_need_board K)) : Df P w K mg base "need_stand" 6 ["board", "thing"] (sp_need_stand K) := by
  obtain ⟨f, fd, hm, F⟩ := T.d_need_stand
  refine ⟨f, fd, hm, F.kp, F.binds (ps := ["board", "thing"]) (fun _ _ _ _ _ _ us hl => match us, hl with | [_, _], _ => rfl), F.ok sc_need_stand (fun vs H Q E h => ?_) (fun cdv A outer s H vs Q E hr h => ?_)⟩
  · obtain ⟨H0, aa, zz, s0, hd, ⟨b, s, hc, rfl, rfl⟩, q⟩ := h
    exact hd.length
  obtain ⟨H0, aa, zz, s0, hd, ⟨b, s, hc, rfl, rfl⟩, q⟩ := h
  refine ⟨_, (pss_cons (ps_expr (pe_df df_need_board (hr.mono (by decide)) (by rfl) (pa_cons (pv 0) pa_nil))) (pss_one (ps_if (pt_not (pt_val (pe_df df_is_stand_by (hr.mono (by decide)) (by rfl) (pa_cons (pv 0) (pa_cons (pv 1) pa_nil))))) (pss_one ps_never) pss_nil))), ?_⟩
  refine body_endN s0 hd q ?_
  obtain ⟨h1, h2⟩ := hc
  apply y_drop1
  · walk_at "go"
  apply y_skipE
  · walk_at "go"
  · rfl
  · exact .inl ⟨_, rfl⟩
def F_look_of : List RD → RD → Prop := fun aa zz => ∃ (b : Board) (s : Stand), (StandOk b s) ∧ aa = [.dat (eB b), .dat (eS s)] ∧ zz = .dat (eD (lookOf b s))
theorem r_look_of (b : Board) (s : Stand) (hc : StandOk b s) : F_look_of [.dat (eB b), .dat (eS s)] (.dat (eD (lookOf b s))) := ⟨b, s, hc, rfl, rfl⟩
abbrev sp_look_of (K : PySem.W.Frag) : Sp := spD K F_look_of
local macro_rules | `(tactic| walk_at "g1") => `(tactic| ((with_reducible apply r_look_of); (try (walk_at "sd"))))
theorem sc_look_of : FnScope ["board", "stand", "own", "last", "word"] ["board", "stand"] (defScope s_look_of) := ⟨rfl, rfl, rfl, by decide +kernel, rfl, by decide +kernel, by decide +kernel⟩
-- slots: 0 board, 1 stand, 2 own, 3 last, 4 word
theorem df_look_of (T : Tx K mg) (df_between : Df P w K mg base "between" 1 ["board", "one", "other"] (sp_between K)) : Df P w K mg base "look_of" 2 ["board", "stand"] (sp_look_of K) := by
  obtain ⟨f, fd, hm, F⟩ := T.d_look_of
  refine ⟨f, fd, hm, F.kp, F.binds (ps := ["board", "stand"]) (fun _ _ _ _ _ _ us hl => match us, hl with | [_, _], _ => rfl), F.ok sc_look_of (fun vs H Q E h => ?_) (fun cdv A outer s H vs Q E hr h => ?_)⟩
  · obtain ⟨H0, aa, zz, s0, hd, ⟨b, s, hc, rfl, rfl⟩, q⟩ := h
    exact hd.length
  obtain ⟨H0, aa, zz, s0, hd, ⟨b, s, hc, rfl, rfl⟩, q⟩ := h
  refine ⟨_, (pss_cons (ps_asg (pv 1) (kTup (K := K) 3 rfl (pgs_cons (pg_name (i := 2) sc_look_of.nd rfl (by first | exact Or.inl rfl | exact Or.inr rfl)) (pgs_cons (pg_name (i := 3) sc_look_of.nd rfl (by first | exact Or.inl rfl | exact Or.inr rfl)) (pgs_cons (pg_name (i := 4) sc_look_of.nd rfl (by first | exact Or.inl rfl | exact Or.inr rfl)) pgs_nil))))) (pss_one (ps_ret (pe_ifExp (pt_cmpR (oK (oD_eq hr.units) (K := K)) (pv 4) (pe_gstr (by rfl) T.c_AHEAD) (nomark _)) (pe_df df_between (hr.mono (by decide)) (by rfl) (pa_cons (pv 0) (pa_cons (pv 2) (pa_cons (pv 3) pa_nil)))) (pe_df df_between (hr.mono (by decide)) (by rfl) (pa_cons (pv 0) (pa_cons (pv 3) (pa_cons (pv 2) pa_nil)))))))), ?_⟩
  refine body_end s0 hd q ?_
  obtain ⟨h1, h2, h3⟩ := hc
  apply y_asg1
  · walk_at "go"
  · walk_at "go"
  refine y_retE (r0 := .dat (if decide (s.word = .ahead) = true then eD (Wm.between b s.own s.last) else eD (Wm.between b s.last s.own))) ?_ ?_ rfl
  · walk_at "go"
  · unfold lookOf
    cases s.word <;> rfl
def F_met_first : List RD → RD → Prop := fun aa zz => ∃ (b : Board) (own : Nat) (look : Dir) (v : Way) (l : List Nat), (Valid b ∧ own < b.length ∧ ∀ p ∈ l, p < b.length) ∧ aa = [.dat (eB b), .dat (eN own), .dat (eD look), .dat (eW v), .dat (.list (l.map eN))] ∧ zz = .dat (eBest (metFirst b own look v l))
theorem r_met_first (b : Board) (own : Nat) (look : Dir) (v : Way) (l : List Nat) (hc : Valid b ∧ own < b.length ∧ ∀ p ∈ l, p < b.length) : F_met_first [.dat (eB b), .dat (eN own), .dat (eD look), .dat (eW v), .dat (.list (l.map eN))] (.dat (eBest (metFirst b own look v l))) := ⟨b, own, look, v, l, hc, rfl, rfl⟩
abbrev sp_met_first (K : PySem.W.Frag) : Sp := spD K F_met_first
local macro_rules | `(tactic| walk_at "g1") => `(tactic| ((with_reducible apply r_met_first); (try (walk_at "sd"))))
theorem sc_met_first : FnScope ["board", "own", "look", "way", "some", "best", "pin", "to", "is_ahead", "then"] ["board", "own", "look", "way", "some"] (defScope s_met_first) := ⟨rfl, rfl, rfl, by decide +kernel, rfl, by decide +kernel, by decide +kernel⟩
-- slots: 0 board, 1 own, 2 look, 3 way, 4 some, 5 best, 6 pin, 7 to, 8 is_ahead, 9 then
theorem df_met_first (T : Tx K mg) (df_between : Df P w K mg base "between" 1 ["board", "one", "other"] (sp_between K)) (df_cross : Df P w K mg base "cross" 1 ["one", "other"] (sp_cross K)) (df_turned_about : Df P w K mg base "turned_about" 1 ["look"] (sp_turned_about K)) : Df P w K mg base "met_first" 2 ["board", "own", "look", "way", "some"] (sp_met_first K) := by
  obtain ⟨f, fd, hm, F⟩ := T.d_met_first
  refine ⟨f, fd, hm, F.kp, F.binds (ps := ["board", "own", "look", "way", "some"]) (fun _ _ _ _ _ _ us hl => match us, hl with | [_, _, _, _, _], _ => rfl), F.ok sc_met_first (fun vs H Q E h => ?_) (fun cdv A outer s H vs Q E hr h => ?_)⟩
  · obtain ⟨H0, aa, zz, s0, hd, ⟨b, own, look, v, l, hc, rfl, rfl⟩, q⟩ := h
    exact hd.length
  obtain ⟨H0, aa, zz, s0, hd, ⟨b, own, look, v, l, hc, rfl, rfl⟩, q⟩ := h
  refine ⟨_, (pss_cons (ps_asg pe_non (pg_name (i := 5) sc_met_first.nd rfl (by first | exact Or.inl rfl | exact Or.inr rfl))) (pss_cons (ps_for PassesOwn.never rfl (kSeq (pv 4) (K := K)) (pg_name (i := 6) sc_met_first.nd rfl (by first | exact Or.inl rfl | exact Or.inr rfl)) (pss_cons (ps_asg (pe_df df_between (hr.mono (by decide)) (by rfl) (pa_cons (pv 0) (pa_cons (pv 1) (pa_cons (pv 6) pa_nil)))) (pg_name (i := 7) sc_met_first.nd rfl (by first | exact Or.inl rfl | exact Or.inr rfl))) (pss_cons (ps_asg (pe_cmpR (oK (oD_eq hr.units) (K := K)) (pe_cmpR (oK oD_gt (K := K)) (pe_df df_cross (hr.mono (by decide)) (by rfl) (pa_cons (pv 2) (pa_cons (pv 7) pa_nil))) pe_int (nomark _)) (pe_cmpR (oK (oD_eq hr.units) (K := K)) (pv 3) (pe_gstr (by rfl) T.c_LEFT) (nomark _)) (nomark _)) (pg_name (i := 8) sc_met_first.nd rfl (by first | exact Or.inl rfl | exact Or.inr rfl))) (pss_cons (ps_asg (pe_ifExp (pt_val (pv 8)) (pv 7) (pe_df df_turned_about (hr.mono (by decide)) (by rfl) (pa_cons (pv 7) pa_nil))) (pg_name (i := 9) sc_met_first.nd rfl (by first | exact Or.inl rfl | exact Or.inr rfl))) (pss_one (ps_if (PW.pt (pw_or (pt_cmpR (oK oD_is (K := K)) (pv 5) pe_non (nomark _)) (pw_or1 (pt_cmpR (oK (oD_eq hr.units) (K := K)) (pe_cmpR (oK oD_gt (K := K)) (pe_df df_cross (hr.mono (by decide)) (by rfl) (pa_cons (pv 9) (pa_cons (pe_ix (xK ixD (K := K)) (pv 5) pe_int (fun _ _ => rfl)) pa_nil))) pe_int (nomark _)) (pe_cmpR (oK (oD_eq hr.units) (K := K)) (pv 3) (pe_gstr (by rfl) T.c_LEFT) (nomark _)) (nomark _))))) (pss_one (ps_asg (pe_tup (pa_cons (pv 6) (pa_cons (pe_ifExp (pt_val (pv 8)) (pe_gstr (by rfl) T.c_AHEAD) (pe_gstr (by rfl) T.c_BEHIND)) (pa_cons (pv 9) pa_nil)))) (pg_name (i := 5) sc_met_first.nd rfl (by first | exact Or.inl rfl | exact Or.inr rfl)))) pss_nil)))))) (pss_one (ps_ret (pv 5))))), ?_⟩
  refine body_end s0 hd q ?_
  obtain ⟨h1, h2, h3⟩ := hc
  apply y_set1
  · walk_at "go"
  apply y_for1 (xs := l) (enc := fun i => RD.dat (eN i)) (fun i G' M' => M' = [] ∧ ∃ x y z t, G' = [some (.dat (eB b)), some (.dat (eN own)), some (.dat (eD look)), some (.dat (eW v)), some (.dat (.list (l.map eN))), some (.dat (eBest (metFirst b own look v (l.take i)))), x, y, z, t])
  · apply xi_listE
    walk_at "go"
  · exact ⟨rfl, none, none, none, none, rfl⟩
  · rintro i x hx G' M' ⟨rfl, g1, g2, g3, g4, rfl⟩
    have hx' := h3 x (List.mem_of_getElem? hx)
    have sm := h1.sm h2 hx'
    have hnext : metFirst b own look v (l.take (i + 1)) = metStep b own look v (metFirst b own look v (l.take i)) x := by
      unfold metFirst
      rw [List.take_add_one, hx, List.foldl_append]
      rfl
    apply svt
    · walk_at "go"
    apply y_set1
    · walk_at "go"
    apply y_setE1 (r := .dat (.bool (toSide look v (Wm.between b own x))))
    · walk_at "go"
    · rw [toSide_eq]
    apply y_setE1 (r := .dat (eD (if toSide look v (Wm.between b own x) = true then Wm.between b own x else neg (Wm.between b own x))))
    · walk_at "go"
    · exact congrArg RD.dat (dir_if _ _ _)
    generalize hbest : metFirst b own look v (l.take i) = best
    rw [hbest] at hnext
    generalize hthn : (if toSide look v (Wm.between b own x) = true then Wm.between b own x else neg (Wm.between b own x)) = thn at *
    have hstep : metStep b own look v best x = if (best.isNone || (best.elim false fun z => toSide thn v z.2.2)) = true then some (x, if toSide look v (Wm.between b own x) = true then .ahead else .behind, thn) else best := by
      unfold metStep
      simp only
      rw [hthn]
      cases best with
      | none => rfl
      | some z => simp
    apply y_if (b := best.isNone || (best.elim false fun z => toSide thn v z.2.2))
    · refine xt_or (xt_test (x_op (a := .dat (eBest best)) (b := .dat .none) ?_ ?_ (dIs_best best))) fun hn => ?_
      · walk_at "go"
      · walk_at "go"
      · cases best with
        | none => cases hn
        | some z =>
          have sz := met_sm h1 h2 (fun p hp => h3 p (List.mem_of_mem_take hp)) hbest
          show EtG K [] _ _ [] (toSide thn v z.2.2) []
          rw [toSide_eq]
          refine xt_test (x_op (a := .dat (.bool (decide (0 < Wm.cross thn z.2.2)))) (b := .dat (.bool (decide (v = .left)))) (x_op (a := .dat (.int (Wm.cross thn z.2.2))) (b := .dat (.int 0)) (x_call (ds := [.dat (eD thn), .dat (eD z.2.2)]) (xa_cons ?_ (xa_cons (x_op (a := .dat (eBest (some z))) (b := .dat (.int 2)) ?_ ?_ ⟨_, rfl, rfl⟩) xa_nil)) (r_cross thn z.2.2 sz)) ?_ ⟨trivial, rfl⟩) ?_ (dEq_bool _ _)) <;> walk_at "go"
    · intro ht
      apply y_set (r := .dat (eBest (some (x, if toSide look v (Wm.between b own x) = true then .ahead else .behind, thn))))
      · show EvG K [] _ _ [] (.dat (.tuple [eN x, eO (if toSide look v (Wm.between b own x) = true then .ahead else .behind), eD thn])) []
        rw [← word_if]
        walk_at "go"
      · rw [← if_pos (c := _ = true) (t := some (x, if toSide look v (Wm.between b own x) = true then Word.ahead else Word.behind, thn)) (e := best) ht, ← hstep, ← hnext]
        exact ⟨rfl, _, _, _, _, rfl⟩
    · intro hf
      apply sv_nil
      have e2 : best = metFirst b own look v (l.take (i + 1)) := by rw [hnext, hstep, hf]; rfl
      rw [e2]
      exact ⟨rfl, _, _, _, _, rfl⟩
  · rintro G' M' ⟨rfl, g1, g2, g3, g4, rfl⟩
    rw [List.take_length]
    apply y_ret
    · walk_at "go"
    · rfl
def F_beside : List RD → RD → Prop := fun aa zz => ∃ (b : Board) (own last : Nat), (b.length ≤ 8) ∧ aa = [.dat (eB b), .dat (eN own), .dat (eN last)] ∧ zz = .dat (.list ((Wm.beside b own last).map eN))
theorem r_beside (b : Board) (own last : Nat) (hc : b.length ≤ 8) : F_beside [.dat (eB b), .dat (eN own), .dat (eN last)] (.dat (.list ((Wm.beside b own last).map eN))) := ⟨b, own, last, hc, rfl, rfl⟩
abbrev sp_beside (K : PySem.W.Frag) : Sp := spD K F_beside
local macro_rules | `(tactic| walk_at "g1") => `(tactic| ((with_reducible apply r_beside); (try (walk_at "sd"))))
theorem sc_beside : FnScope ["board", "own", "last", "pin"] ["board", "own", "last"] (defScope s_beside) := ⟨rfl, rfl, rfl, by decide +kernel, rfl, by decide +kernel, by decide +kernel⟩
-- slots: 0 board, 1 own, 2 last, 3 pin
theorem df_beside (T : Tx K mg) : Df P w K mg base "beside" 1 ["board", "own", "last"] (sp_beside K) := by
  obtain ⟨f, fd, hm, F⟩ := T.d_beside
  refine ⟨f, fd, hm, F.kp, F.binds (ps := ["board", "own", "last"]) (fun _ _ _ _ _ _ us hl => match us, hl with | [_, _, _], _ => rfl), F.ok sc_beside (fun vs H Q E h => ?_) (fun cdv A outer s H vs Q E hr h => ?_)⟩
  · obtain ⟨H0, aa, zz, s0, hd, ⟨b, own, last, hc, rfl, rfl⟩, q⟩ := h
    exact hd.length
  obtain ⟨H0, aa, zz, s0, hd, ⟨b, own, last, hc, rfl, rfl⟩, q⟩ := h
  refine ⟨_, (pss_one (ps_ret (pe_lc (own := [("pin", 3)]) (g := (gName 3)) rfl sc_beside.nd (pi_range1 (by rfl) T.z_range (pa_cons (pe_callB (cK cD_lenA (K := K) (R' := fLenA P w)) (by rfl) T.z_len (by decide +kernel) (pa_cons (pv 0) pa_nil)) pa_nil)) (blkOk_by (show blkC ["board", "own", "last", "pin"] (defScope s_beside) _ _ = true by decide +kernel)) (fun _ _ _ _ _ => (pg_name (i := 3) sc_beside.nd rfl (by first | exact Or.inl rfl | exact Or.inr rfl))) (fun _ _ _ _ _ => (pts_one (pt_cmpR (oK (oD_notin (u65 hr)) (K := K)) (pv 3) (pe_tup (pa_cons (pv 1) (pa_cons (pv 2) pa_nil))) (by rfl)))) (fun _ _ _ _ _ => (pv 3))))), ?_⟩
  refine body_end s0 hd q ?_
  have e : Wm.beside b own last = (List.range b.length).filter fun p => !decide (p ∈ [own, last]) := by
    unfold Wm.beside
    apply List.filter_congr
    intro p _
    by_cases h1 : p = own
    · simp [h1]
    · by_cases h2 : p = last
      · simp [h2]
      · simp [h1, h2]
  rw [e]
  refine y_ret ?_ rfl
  apply x_lcP (List.range b.length) (fun i => RD.dat (eN i)) (fun p => !decide (p ∈ [own, last])) eN
  · apply xi_rngN
    · walk_at "go"
    · omega
  · walk_at "go"
  · intro p hp
    refine xt_test (x_op (a := .dat (eN p)) (b := .dat (.tuple [eN own, eN last])) ?_ ?_ (dNotIn_nats [own, last] p)) <;> walk_at "go"
  · intro p hp _
    walk_at "go"
  · rw [List.length_range]; omega
def F_beat_by : List RD → RD → Prop := fun aa zz => ∃ (b : Board) (s : Stand), (Valid b ∧ StandOk b s) ∧ aa = [.dat (eB b), .dat (eS s)] ∧ zz = .dat (eS (Wm.beat b s))
theorem r_beat_by (b : Board) (s : Stand) (hc : Valid b ∧ StandOk b s) : F_beat_by [.dat (eB b), .dat (eS s)] (.dat (eS (Wm.beat b s))) := ⟨b, s, hc, rfl, rfl⟩
abbrev sp_beat_by (K : PySem.W.Frag) : Sp := spD K F_beat_by
local macro_rules | `(tactic| walk_at "g1") => `(tactic| ((with_reducible apply r_beat_by); (try (walk_at "sd"))))
theorem sc_beat_by : FnScope ["board", "stand", "own", "last", "word", "pin", "met", "look"] ["board", "stand"] (defScope s_beat_by) := ⟨rfl, rfl, rfl, by decide +kernel, rfl, by decide +kernel, by decide +kernel⟩
-- slots: 0 board, 1 stand, 2 own, 3 last, 4 word, 5 pin, 6 met, 7 look
theorem df_beat_by (T : Tx K mg) (df_beside : Df P w K mg base "beside" 1 ["board", "own", "last"] (sp_beside K)) (df_look_of : Df P w K mg base "look_of" 2 ["board", "stand"] (sp_look_of K)) (df_met_first : Df P w K mg base "met_first" 2 ["board", "own", "look", "way", "some"] (sp_met_first K)) (df_other_word : Df P w K mg base "other_word" 1 ["word"] (sp_other_word K)) : Df P w K mg base "beat_by" 3 ["board", "stand"] (sp_beat_by K) := by
  obtain ⟨f, fd, hm, F⟩ := T.d_beat_by
  refine ⟨f, fd, hm, F.kp, F.binds (ps := ["board", "stand"]) (fun _ _ _ _ _ _ us hl => match us, hl with | [_, _], _ => rfl), F.ok sc_beat_by (fun vs H Q E h => ?_) (fun cdv A outer s H vs Q E hr h => ?_)⟩
  · obtain ⟨H0, aa, zz, s0, hd, ⟨b, s, hc, rfl, rfl⟩, q⟩ := h
    exact hd.length
  obtain ⟨H0, aa, zz, s0, hd, ⟨b, s, hc, rfl, rfl⟩, q⟩ := h
  refine ⟨_, (pss_cons (ps_asg (pv 1) (kTup (K := K) 3 rfl (pgs_cons (pg_name (i := 2) sc_beat_by.nd rfl (by first | exact Or.inl rfl | exact Or.inr rfl)) (pgs_cons (pg_name (i := 3) sc_beat_by.nd rfl (by first | exact Or.inl rfl | exact Or.inr rfl)) (pgs_cons (pg_name (i := 4) sc_beat_by.nd rfl (by first | exact Or.inl rfl | exact Or.inr rfl)) pgs_nil))))) (pss_cons (ps_asg (pe_df df_met_first (hr.mono (by decide)) (by rfl) (pa_cons (pv 0) (pa_cons (pv 2) (pa_cons (pe_df df_look_of (hr.mono (by decide)) (by rfl) (pa_cons (pv 0) (pa_cons (pv 1) pa_nil))) (pa_cons (pe_ix (xK ixD (K := K)) (pe_ix (xK ixD (K := K)) (pv 0) (pv 2) (fun _ _ => rfl)) pe_int (fun _ _ => rfl)) (pa_cons (pe_df df_beside (hr.mono (by decide)) (by rfl) (pa_cons (pv 0) (pa_cons (pv 2) (pa_cons (pv 3) pa_nil)))) pa_nil)))))) (kTup (K := K) 3 rfl (pgs_cons (pg_name (i := 5) sc_beat_by.nd rfl (by first | exact Or.inl rfl | exact Or.inr rfl)) (pgs_cons (pg_name (i := 6) sc_beat_by.nd rfl (by first | exact Or.inl rfl | exact Or.inr rfl)) (pgs_cons (pg_name (i := 7) sc_beat_by.nd rfl (by first | exact Or.inl rfl | exact Or.inr rfl)) pgs_nil))))) (pss_one (ps_ret (pe_tup (pa_cons (pv 5) (pa_cons (pv 2) (pa_cons (pe_df df_other_word (hr.mono (by decide)) (by rfl) (pa_cons (pv 6) pa_nil)) pa_nil)))))))), ?_⟩
  refine body_end s0 hd q ?_
  obtain ⟨h1, h2⟩ := hc
  have h3 := h1.most
  obtain ⟨h4, h5, h6⟩ := id h2
  obtain ⟨y, e1, e2, _⟩ := beat_met (s := s) h1.few
  apply y_asg1
  · walk_at "go"
  · walk_at "go"
  apply y_asg1 (r := .dat (eBest (some y)))
  · rw [← e1]
    refine x_call (ds := [.dat (eB b), .dat (eN s.own), .dat (eD (lookOf b s)), .dat (eW (way b s.own)), .dat (.list ((Wm.beside b s.own s.last).map eN))]) ?_ (r_met_first b s.own _ _ _ ⟨h1, h4, fun p hp => (mem_beside.mp hp).1⟩)
    walk_at "go"
  · show TgG K _ (.dat (.tuple [eN y.1, eO y.2.1, eD y.2.2])) _ _
    walk_at "go"
  rw [e2]
  apply y_ret
  · walk_at "go"
  · rfl
def F_beat : List RD → RD → Prop := fun aa zz => ∃ (b : Board) (s : Stand), (Valid b ∧ StandOk b s) ∧ aa = [.dat (eB b), .dat (eS s)] ∧ zz = .dat (eS (Wm.beat b s))
theorem r_beat (b : Board) (s : Stand) (hc : Valid b ∧ StandOk b s) : F_beat [.dat (eB b), .dat (eS s)] (.dat (eS (Wm.beat b s))) := ⟨b, s, hc, rfl, rfl⟩
abbrev sp_beat (K : PySem.W.Frag) : Sp := spD K F_beat
local macro_rules | `(tactic| walk_at "g1") => `(tactic| ((with_reducible apply r_beat); (try (walk_at "sd"))))
theorem sc_beat : FnScope ["board", "stand"] ["board", "stand"] (defScope s_beat) := ⟨rfl, rfl, rfl, by decide +kernel, rfl, by decide +kernel, by decide +kernel⟩
-- slots: 0 board, 1 stand
theorem df_beat (T : Tx K mg) (df_beat_by : Df P w K mg base "beat_by" 3 ["board", "stand"] (sp_beat_by K)) (df_need_stand : Df P w K mg base "need_stand" 6 ["board", "thing"] (sp_need_stand K)) : Df P w K mg base "beat" 7 ["board", "stand"] (sp_beat K) := by
  obtain ⟨f, fd, hm, F⟩ := T.d_beat
  refine ⟨f, fd, hm, F.kp, F.binds (ps := ["board", "stand"]) (fun _ _ _ _ _ _ us hl => match us, hl with | [_, _], _ => rfl), F.ok sc_beat (fun vs H Q E h => ?_) (fun cdv A outer s H vs Q E hr h => ?_)⟩
  · obtain ⟨H0, aa, zz, s0, hd, ⟨b, s, hc, rfl, rfl⟩, q⟩ := h
    exact hd.length
  obtain ⟨H0, aa, zz, s0, hd, ⟨b, s, hc, rfl, rfl⟩, q⟩ := h
  refine ⟨_, (pss_cons (ps_expr (pe_df df_need_stand (hr.mono (by decide)) (by rfl) (pa_cons (pv 0) (pa_cons (pv 1) pa_nil)))) (pss_one (ps_ret (pe_df df_beat_by (hr.mono (by decide)) (by rfl) (pa_cons (pv 0) (pa_cons (pv 1) pa_nil)))))), ?_⟩
  refine body_end s0 hd q ?_
  obtain ⟨h1, h2⟩ := hc
  apply y_drop1
  · walk_at "go"
  apply y_ret
  · walk_at "go"
  · rfl
def F_all_stands : List RD → RD → Prop := fun aa zz => ∃ (b : Board), (b.length ≤ 8) ∧ aa = [.dat (eB b)] ∧ zz = .dat (.list ((allStands b).map eS))
theorem r_all_stands (b : Board) (hc : b.length ≤ 8) : F_all_stands [.dat (eB b)] (.dat (.list ((allStands b).map eS))) := ⟨b, hc, rfl, rfl⟩
abbrev sp_all_stands (K : PySem.W.Frag) : Sp := spD K F_all_stands
local macro_rules | `(tactic| walk_at "g1") => `(tactic| ((with_reducible apply r_all_stands); (try (walk_at "sd"))))
theorem sc_all_stands : FnScope ["board", "found", "own", "last"] ["board"] (defScope s_all_stands) := ⟨rfl, rfl, rfl, by decide +kernel, rfl, by decide +kernel, by decide +kernel⟩
-- slots: 0 board, 1 found, 2 own, 3 last
theorem df_all_stands (T : Tx K mg) : Df P w K mg base "all_stands" 1 ["board"] (sp_all_stands K) := by
  obtain ⟨f, fd, hm, F⟩ := T.d_all_stands
  refine ⟨f, fd, hm, F.kp, F.binds (ps := ["board"]) (fun _ _ _ _ _ _ us hl => match us, hl with | [_], _ => rfl), F.ok sc_all_stands (fun vs H Q E h => ?_) (fun cdv A outer s H vs Q E hr h => ?_)⟩
  · obtain ⟨H0, aa, zz, s0, hd, ⟨b, hc, rfl, rfl⟩, q⟩ := h
    exact hd.length
  obtain ⟨H0, aa, zz, s0, hd, ⟨b, hc, rfl, rfl⟩, q⟩ := h
  refine ⟨_, (pss_cons (ps_asg (pe_lst pa_nil) (pg_name (i := 1) sc_all_stands.nd rfl (by first | exact Or.inl rfl | exact Or.inr rfl))) (pss_cons (ps_for PassesOwn.never rfl (pi_range1 (by rfl) T.z_range (pa_cons (pe_callB (cK cD_lenA (K := K) (R' := fLenA P w)) (by rfl) T.z_len (by decide +kernel) (pa_cons (pv 0) pa_nil)) pa_nil)) (pg_name (i := 2) sc_all_stands.nd rfl (by first | exact Or.inl rfl | exact Or.inr rfl)) (pss_one (ps_for PassesOwn.never rfl (kSeq (pe_lc (own := [("last", 3)]) (g := (gName 3)) rfl sc_all_stands.nd (pi_range1 (by rfl) T.z_range (pa_cons (pe_callB (cK cD_lenA (K := K) (R' := fLenA P w)) (by rfl) T.z_len (by decide +kernel) (pa_cons (pv 0) pa_nil)) pa_nil)) (blkOk_by (show blkC ["board", "found", "own", "last"] (defScope s_all_stands) _ _ = true by decide +kernel)) (fun _ _ _ _ _ => (pg_name (i := 3) sc_all_stands.nd rfl (by first | exact Or.inl rfl | exact Or.inr rfl))) (fun _ _ _ _ _ => (pts_one (pt_cmpR (oK (oD_ne hr.units) (K := K)) (pv 3) (pv 2) (nomark _)))) (fun _ _ _ _ _ => (pv 3))) (K := K)) (pg_name (i := 3) sc_all_stands.nd rfl (by first | exact Or.inl rfl | exact Or.inr rfl)) (pss_one (ps_expr (pe_bm PySem.F.plainAttrs_list PySem.F.slot_list_extend PySem.F.type_list_extend mt_extend (pv 1) (pa_cons (pe_lst (pa_cons (pe_tup (pa_cons (pv 2) (pa_cons (pv 3) (pa_cons (pe_gstr (by rfl) T.c_AHEAD) pa_nil)))) (pa_cons (pe_tup (pa_cons (pv 2) (pa_cons (pv 3) (pa_cons (pe_gstr (by rfl) T.c_BEHIND) pa_nil)))) pa_nil))) pa_nil))))))) (pss_one (ps_ret (pv 1))))), ?_⟩
  refine body_end s0 hd q ?_
  refine sv_newLF (ds := []) (by with_reducible exact xd_nil) (by decide) fun p => ?_
  have hin : ∀ (own : Nat) (l : List Nat), (l.flatMap fun last => [Stand.mk own last .ahead, ⟨own, last, .behind⟩]).length = l.length * 2 := by
    intro own l
    induction l with
    | nil => rfl
    | cons a l ih => rw [List.flatMap_cons, List.length_append, ih, List.length_cons]; simp; omega
  have hfl : ∀ own : Nat, ((List.range b.length).filter fun last => last != own).length ≤ 8 := fun own => Nat.le_trans (List.length_filter_le _ _) (by rw [List.length_range]; exact hc)
  have hout : ∀ i, i ≤ 8 → ((List.range i).flatMap fun own => ((List.range b.length).filter fun last => last != own).flatMap fun last => [Stand.mk own last .ahead, ⟨own, last, .behind⟩]).length ≤ 128 := fun i hi => by
    refine Nat.le_trans (flat_few 16 _ _ fun own _ => ?_) ?_
    · rw [hin]; have := hfl own; omega
    · rw [List.length_range]; omega
  apply y_for (xs := List.range b.length) (enc := fun i => RD.dat (eN i)) (fun i G' M' => M' = [.lst (((List.range i).flatMap fun own => ((List.range b.length).filter fun last => last != own).flatMap fun last => [Stand.mk own last .ahead, ⟨own, last, .behind⟩]).map eS)] ∧ ∃ x y, G' = [some (.dat (eB b)), some (.raw (.ref p)), x, y])
  · apply xi_rngN
    · walk_at "go"
    · omega
  · exact ⟨rfl, none, none, rfl⟩
  · rintro i x hx G' M' ⟨rfl, y, z, rfl⟩
    obtain ⟨rfl, hi⟩ := range_at hx
    apply svt
    · walk_at "go"
    have e : ((List.range b.length).filter fun last => last != x) = (List.range b.length).filter fun (last : Nat) => !decide ((last : Int) = (x : Int)) := by
      apply List.filter_congr
      intro q _
      by_cases h : q = x
      · simp [h]
      · have : ¬ (q : Int) = x := by omega
        simp [h, this]
    apply y_for (xs := (List.range b.length).filter fun last => last != x) (enc := fun i => RD.dat (eN i)) (fun j G' M' => M' = [.lst ((((List.range x).flatMap fun own => ((List.range b.length).filter fun last => last != own).flatMap fun last => [Stand.mk own last .ahead, ⟨own, last, .behind⟩]) ++ ((((List.range b.length).filter fun last => last != x).take j).flatMap fun last => [Stand.mk x last .ahead, ⟨x, last, .behind⟩])).map eS)] ∧ ∃ y, G' = [some (.dat (eB b)), some (.raw (.ref p)), some (.dat (eN x)), y])
    · rw [e]
      apply xi_listE
      apply x_lcP (List.range b.length) (fun i => RD.dat (eN i)) (fun last => !decide ((last : Int) = (x : Int))) eN
      · apply xi_rngN
        · walk_at "go"
        · omega
      · walk_at "go"
      · intro q hq
        walk_at "go"
      · intro q hq _
        walk_at "go"
      · rw [List.length_range]; omega
    · refine ⟨?_, _, rfl⟩
      rw [List.take_zero, List.flatMap_nil, List.append_nil]
    · rintro j last hl G' M' ⟨rfl, y, rfl⟩
      apply svt
      · walk_at "go"
      apply sv_ext (j := 0) (p := p) (es := [.tuple [eN x, eN last, .str "ahead"], .tuple [eN x, eN last, .str "behind"]])
      · walk_at "go"
      · walk_at "go"
      · rfl
      · rfl
      · rfl
      · rw [List.length_map, List.length_append, hin, List.length_take]
        have h1 := hout x (by omega)
        have h2 := hfl x
        show _ + 2 ≤ _
        unfold big
        omega
      · refine ⟨congrArg (fun z => [Mu.lst z]) ?_, _, rfl⟩
        rw [List.take_add_one, hl]
        simp only [List.flatMap_append, List.map_append, List.append_assoc]
        rfl
    · rintro G' M' ⟨rfl, y, rfl⟩
      refine ⟨?_, _, _, rfl⟩
      rw [List.take_length, List.range_succ, List.flatMap_append, List.flatMap_cons, List.flatMap_nil, List.append_nil]
  · rintro G' M' ⟨rfl, y, z, rfl⟩
    refine ⟨[], _, rfl, rfl, ?_⟩
    apply y_ret
    · walk_at "go"
    · show _ = _
      rw [List.length_range]
      rfl
end
end Wk
end
section
set_option Elab.async false
set_option linter.all false
set_option autoImplicit false
set_option maxRecDepth 100000
set_option maxHeartbeats 4000000
namespace Wk
open PySem L2 Wp Wm
/-! ### the words of the evaluation -/
local macro_rules | `(tactic| walk_at "sd") => `(tactic| first
  | assumption
  | exact trivial
  | exact rfl
  | omega
  | (refine ⟨?_, ?_⟩ <;> (walk_at "sd")))
local macro_rules | `(tactic| walk_at "g1") => `(tactic| first
  | ((with_reducible apply ev_var); exact rfl)
  | with_reducible exact ev_int
  | with_reducible exact ev_str
  | with_reducible exact ev_bl
  | with_reducible exact ev_non
  | with_reducible exact ev_raw
  | exact ev_int
  | with_reducible exact xa_nil
  | with_reducible exact xd_nil
  | with_reducible exact eo_none
  | with_reducible apply x_op
  | with_reducible apply x_cb
  | with_reducible apply x_call
  | with_reducible apply x_tup
  | with_reducible apply x_lst
  | with_reducible apply xa_cons
  | with_reducible apply xd_cons
  | with_reducible apply xo_some
  | with_reducible apply x_un
  | with_reducible apply x_sl
  | with_reducible apply x_if
  | with_reducible apply x_and
  | with_reducible apply x_or
  | with_reducible apply x_not
  | with_reducible apply x_chain
  | with_reducible apply xt_test
  | with_reducible apply xt_B
  | with_reducible apply xt_not
  | with_reducible apply xt_and
  | with_reducible apply xt_or
  | ((with_reducible refine fun _ => ?_); first | with_reducible show EvG _ _ _ _ _ _ _ | with_reducible show EtG _ _ _ _ _ _ _)
  | ((with_reducible refine fun _ _ => ?_); first | with_reducible show TgW _ _ _ _ _ _ | with_reducible show EvG _ _ _ _ _ _ _ | with_reducible show EtG _ _ _ _ _ _ _)
  | exact rfl
  | assumption
  | exact ⟨_, rfl, rfl⟩
  | exact ⟨_, by assumption, rfl⟩
  | exact ⟨trivial, rfl⟩
  | exact Or.inl rfl
  | exact ⟨rfl, rfl, rfl⟩
  | exact ⟨by decide, rfl⟩
  | exact ⟨by assumption, rfl⟩
  | exact ⟨rfl, by assumption⟩
  | exact ⟨rfl, by decide⟩
  | (show List.length _ ≤ 1000; exact Nat.le_of_ble_eq_true rfl)
  | fail "open")
local macro_rules | `(tactic| walk_at "go") => `(tactic| repeat' (walk_at "g1"))
local macro_rules | `(tactic| walk_at "g1") => `(tactic| ((with_reducible apply ix_pin); (try (walk_at "sd"))))
local macro_rules | `(tactic| walk_at "g1") => `(tactic| first
  | with_reducible exact tw_name
  | with_reducible apply tw_tup
  | with_reducible exact tws_nil
  | with_reducible apply tws_cons
  | with_reducible exact tg_name
  | with_reducible apply tg_tup
  | with_reducible exact tgs_nil
  | with_reducible apply tgs_cons
  | with_reducible exact r_all _ _
  | with_reducible exact r_sum _ _
  | with_reducible exact r_len _
  | with_reducible exact r_lenT _)
local macro_rules | `(tactic| walk_at "g1") => `(tactic| first
  | with_reducible exact dEq_wayL _
  | with_reducible exact dEq_wordA _
  | with_reducible exact dEq_wordB _
  | with_reducible exact dEq_int _ _
  | with_reducible exact dNe_int _ _
  | with_reducible exact dEq_bool _ _
  | with_reducible exact r_all2 _ _ _
  | with_reducible exact dIn_nats _ _
  | with_reducible exact dNotIn_nats _ _)
local macro_rules | `(tactic| walk_at "g1") => `(tactic| first
  | ((with_reducible apply dMod_at); (walk_at "sd"))
  | ((with_reducible apply dDiv_at); (walk_at "sd"))
  | ((with_reducible apply dMul_at); (walk_at "sd")))

section
variable {P : Program} {w : World} {K : PySem.W.Frag} {mg : Str → Option Value} {base : Heap}
local macro_rules | `(tactic| walk_at "g1") => `(tactic| ((with_reducible apply r_is_whole); (try (walk_at "sd"))))
local macro_rules | `(tactic| walk_at "g1") => `(tactic| ((with_reducible apply r_is_within); (try (walk_at "sd"))))
local macro_rules | `(tactic| walk_at "g1") => `(tactic| ((with_reducible apply r_is_long); (try (walk_at "sd"))))
local macro_rules | `(tactic| walk_at "g1") => `(tactic| ((with_reducible apply r_rises); (try (walk_at "sd"))))
local macro_rules | `(tactic| walk_at "g1") => `(tactic| ((with_reducible apply r_is_way); (try (walk_at "sd"))))
local macro_rules | `(tactic| walk_at "g1") => `(tactic| ((with_reducible apply r_other_way); (try (walk_at "sd"))))
local macro_rules | `(tactic| walk_at "g1") => `(tactic| ((with_reducible apply r_is_pin_by); (try (walk_at "sd"))))
local macro_rules | `(tactic| walk_at "g1") => `(tactic| ((with_reducible apply r_cross); (try (walk_at "sd"))))
local macro_rules | `(tactic| walk_at "g1") => `(tactic| ((with_reducible apply r_between); (try (walk_at "sd"))))
local macro_rules | `(tactic| walk_at "g1") => `(tactic| ((with_reducible apply r_pairs_of); (try (walk_at "sd"))))
local macro_rules | `(tactic| walk_at "g1") => `(tactic| ((with_reducible apply r_is_board); (try (walk_at "sd"))))
local macro_rules | `(tactic| walk_at "g1") => `(tactic| ((with_reducible apply r_need_board); (try (walk_at "sd"))))
local macro_rules | `(tactic| walk_at "g1") => `(tactic| ((with_reducible apply r_need_pins); (try (walk_at "sd"))))
local macro_rules | `(tactic| walk_at "g1") => `(tactic| ((with_reducible apply r_with_ways_by); (try (walk_at "sd"))))
local macro_rules | `(tactic| walk_at "g1") => `(tactic| ((with_reducible apply r_with_ways); (try (walk_at "sd"))))
local macro_rules | `(tactic| walk_at "g1") => `(tactic| ((with_reducible apply r_mirrored); (try (walk_at "sd"))))
local macro_rules | `(tactic| walk_at "g1") => `(tactic| ((with_reducible apply r_other_word); (try (walk_at "sd"))))
local macro_rules | `(tactic| walk_at "g1") => `(tactic| ((with_reducible apply r_turned_about); (try (walk_at "sd"))))
local macro_rules | `(tactic| walk_at "g1") => `(tactic| ((with_reducible apply r_is_stand_by); (try (walk_at "sd"))))
local macro_rules | `(tactic| walk_at "g1") => `(tactic| ((with_reducible apply r_need_stand); (try (walk_at "sd"))))
local macro_rules | `(tactic| walk_at "g1") => `(tactic| ((with_reducible apply r_look_of); (try (walk_at "sd"))))
local macro_rules | `(tactic| walk_at "g1") => `(tactic| ((with_reducible apply r_met_first); (try (walk_at "sd"))))
local macro_rules | `(tactic| walk_at "g1") => `(tactic| ((with_reducible apply r_beside); (try (walk_at "sd"))))
local macro_rules | `(tactic| walk_at "g1") => `(tactic| ((with_reducible apply r_beat_by); (try (walk_at "sd"))))
local macro_rules | `(tactic| walk_at "g1") => `(tactic| ((with_reducible apply r_beat); (try (walk_at "sd"))))
local macro_rules | `(tactic| walk_at "g1") => `(tactic| ((with_reducible apply r_all_stands); (try (walk_at "sd"))))
def RowOk (b : Board) (r : List Nat) : Prop := 1 ≤ r.length ∧ r.length ≤ 30 ∧ ∀ x ∈ r, x < b.length
def F_need_row : List RD → RD → Prop := fun aa zz => ∃ (b : Board) (r : List Nat), (RowOk b r) ∧ aa = [.dat (eB b), .dat (eR r)] ∧ zz = .dat .none
theorem r_need_row (b : Board) (r : List Nat) (hc : RowOk b r) : F_need_row [.dat (eB b), .dat (eR r)] (.dat .none) := ⟨b, r, hc, rfl, rfl⟩
abbrev sp_need_row (K : PySem.W.Frag) : Sp := spD K F_need_row
local macro_rules | `(tactic| walk_at "g1") => `(tactic| ((with_reducible apply r_need_row); (try (walk_at "sd"))))
theorem sc_need_row : FnScope ["board", "thing", "one"] ["board", "thing"] (defScope s_need_row) := ⟨rfl, rfl, rfl, by decide +kernel, rfl, by decide +kernel, by decide +kernel⟩
-- slots: 0 board, 1 thing, 2 one
theorem df_need_row (T : Tx K mg) (df_is_long : Df P w K mg base "is_long" 1 ["thing", "least", "most"] (sp_is_long K)) (df_is_within : Df P w K mg base "is_within" 2 ["thing", "least", "most"] (sp_is_within K)) : Df P w K mg base "need_row" 3 ["board", "thing"] (sp_need_row K) := by
  obtain ⟨f, fd, hm, F⟩ := T.d_need_row
  refine ⟨f, fd, hm, F.kp, F.binds (ps := ["board", "thing"]) (fun _ _ _ _ _ _ us hl => match us, hl with | [_, _], _ => rfl), F.ok sc_need_row (fun vs H Q E h => ?_) (fun cdv A outer s H vs Q E hr h => ?_)⟩
  · obtain ⟨H0, aa, zz, s0, hd, ⟨b, r, hc, rfl, rfl⟩, q⟩ := h
    exact hd.length
  obtain ⟨H0, aa, zz, s0, hd, ⟨b, r, hc, rfl, rfl⟩, q⟩ := h
  refine ⟨_, (pss_one (ps_if (PW.pt (pw_or (pt_not (pt_val (pe_df df_is_long (hr.mono (by decide)) (by rfl) (pa_cons (pv 1) (pa_cons pe_int (pa_cons (pe_gint (by rfl) T.c_MOST_ROW) pa_nil)))))) (pw_or1 (pt_not (pt_val (pe_callB (cK (cD_all rfl) (K := K)) (by rfl) T.z_all (by decide +kernel) (pa_cons (pe_lc (own := [("one", 2)]) (g := (gName 2)) (tt := tYes) rfl sc_need_row.nd (kSeq (pv 1) (K := K)) (blkOk_by (show blkC ["board", "thing", "one"] (defScope s_need_row) _ _ = true by decide +kernel)) (fun _ _ _ _ _ => (pg_name (i := 2) sc_need_row.nd rfl (by first | exact Or.inl rfl | exact Or.inr rfl))) (fun _ _ _ _ _ => pts_nil) (fun _ _ _ _ _ => (pe_df df_is_within (hr.mono (by decide)) (by rfl) (pa_cons (pv 2) (pa_cons pe_int (pa_cons (pe_op (oK oD_sub (K := K)) (pe_callB (cK cD_lenA (K := K) (R' := fLenA P w)) (by rfl) T.z_len (by decide +kernel) (pa_cons (pv 0) pa_nil)) pe_int) pa_nil)))))) pa_nil))))))) (pss_one ps_never) pss_nil)), ?_⟩
  refine body_endN s0 hd q ?_
  obtain ⟨h1, h2, h3⟩ := hc
  apply y_skipE (b := (!(decide ((1 : Int) ≤ r.length) && decide ((r.length : Int) ≤ 30))) || !(r.all fun x => decide ((0 : Int) ≤ x) && decide ((x : Int) ≤ (b.length : Int) - 1)))
  · refine xt_or (xt_not (xt_B ?_)) fun _ => xt_not (xt_B ?_)
    · refine x_call (ds := [.dat (eR r), .dat (.int 1), .dat (.int 30)]) ?_ ?_
      · walk_at "go"
      · have := r_is_long (r.map eN) 1 30 trivial
        rw [List.length_map] at this
        exact this
    · refine x_cb (xa_cons ?_ xa_nil) (r_all _ _)
      apply x_lcM r (fun p => RD.dat (eN p)) (fun x => .bool (decide ((0 : Int) ≤ x) && decide ((x : Int) ≤ (b.length : Int) - 1)))
      · apply xi_tupE
        walk_at "go"
      · walk_at "go"
      · intro p hp
        walk_at "go"
      · omega
  · rw [show (r.all fun x => decide ((0 : Int) ≤ x) && decide ((x : Int) ≤ (b.length : Int) - 1)) = true from List.all_eq_true.mpr fun x hx => ?_]
    · rw [decide_eq_true (show (1 : Int) ≤ r.length by omega), decide_eq_true (show (r.length : Int) ≤ 30 by omega)]
      rfl
    · have := h3 x hx
      rw [decide_eq_true (show (0 : Int) ≤ x by omega), decide_eq_true (show (x : Int) ≤ (b.length : Int) - 1 by omega)]
      rfl
  · exact .inl ⟨_, rfl⟩
def F_need_seen : List RD → RD → Prop := fun aa zz => ∃ (b : Board) (r : List Nat), (Valid b ∧ RowOk b r) ∧ aa = [.dat (eB b), .dat (eR r)] ∧ zz = .dat .none
theorem r_need_seen (b : Board) (r : List Nat) (hc : Valid b ∧ RowOk b r) : F_need_seen [.dat (eB b), .dat (eR r)] (.dat .none) := ⟨b, r, hc, rfl, rfl⟩
abbrev sp_need_seen (K : PySem.W.Frag) : Sp := spD K F_need_seen
local macro_rules | `(tactic| walk_at "g1") => `(tactic| ((with_reducible apply r_need_seen); (try (walk_at "sd"))))
theorem sc_need_seen : FnScope ["board", "row"] ["board", "row"] (defScope s_need_seen) := ⟨rfl, rfl, rfl, by decide +kernel, rfl, by decide +kernel, by decide +kernel⟩
-- slots: 0 board, 1 row
theorem df_need_seen (T : Tx K mg) (df_need_board : Df P w K mg base "need_board" 5 ["thing"] (sp_need_board K)) (df_need_row : Df P w K mg base "need_row" 3 ["board", "thing"] (sp_need_row K)) : Df P w K mg base "need_seen" 6 ["board", "row"] (sp_need_seen K) := by
  obtain ⟨f, fd, hm, F⟩ := T.d_need_seen
  refine ⟨f, fd, hm, F.kp, F.binds (ps := ["board", "row"]) (fun _ _ _ _ _ _ us hl => match us, hl with | [_, _], _ => rfl), F.ok sc_need_seen (fun vs H Q E h => ?_) (fun cdv A outer s H vs Q E hr h => ?_)⟩
  · obtain ⟨H0, aa, zz, s0, hd, ⟨b, r, hc, rfl, rfl⟩, q⟩ := h
    exact hd.length
  obtain ⟨H0, aa, zz, s0, hd, ⟨b, r, hc, rfl, rfl⟩, q⟩ := h
  refine ⟨_, (pss_cons (ps_expr (pe_df df_need_board (hr.mono (by decide)) (by rfl) (pa_cons (pv 0) pa_nil))) (pss_one (ps_expr (pe_df df_need_row (hr.mono (by decide)) (by rfl) (pa_cons (pv 0) (pa_cons (pv 1) pa_nil)))))), ?_⟩
  refine body_endN s0 hd q ?_
  obtain ⟨h1, h2⟩ := hc
  apply y_drop1
  · walk_at "go"
  refine sv_drop (r := .dat .none) (M1 := []) ?_ (.inl ⟨_, rfl⟩)
  walk_at "go"
def F_by_ways : List RD → RD → Prop := fun aa zz => ∃ (b : Board) (ws : List Way), (b.length ≤ 8) ∧ aa = [.dat (eB b), .dat (eWs ws)] ∧ zz = .dat (eB (byWays b ws))
theorem r_by_ways (b : Board) (ws : List Way) (hc : b.length ≤ 8) : F_by_ways [.dat (eB b), .dat (eWs ws)] (.dat (eB (byWays b ws))) := ⟨b, ws, hc, rfl, rfl⟩
abbrev sp_by_ways (K : PySem.W.Frag) : Sp := spD K F_by_ways
local macro_rules | `(tactic| walk_at "g1") => `(tactic| ((with_reducible apply r_by_ways); (try (walk_at "sd"))))
theorem sc_by_ways : FnScope ["board", "ways", "way", "x", "y", "its"] ["board", "ways"] (defScope s_by_ways) := ⟨rfl, rfl, rfl, by decide +kernel, rfl, by decide +kernel, by decide +kernel⟩
-- slots: 0 board, 1 ways, 2 way, 3 x, 4 y, 5 its
theorem df_by_ways (T : Tx K mg) : Df P w K mg base "by_ways" 1 ["board", "ways"] (sp_by_ways K) := by
  obtain ⟨f, fd, hm, F⟩ := T.d_by_ways
  refine ⟨f, fd, hm, F.kp, F.binds (ps := ["board", "ways"]) (fun _ _ _ _ _ _ us hl => match us, hl with | [_, _], _ => rfl), F.ok sc_by_ways (fun vs H Q E h => ?_) (fun cdv A outer s H vs Q E hr h => ?_)⟩
  · obtain ⟨H0, aa, zz, s0, hd, ⟨b, ws, hc, rfl, rfl⟩, q⟩ := h
    exact hd.length
  obtain ⟨H0, aa, zz, s0, hd, ⟨b, ws, hc, rfl, rfl⟩, q⟩ := h
  refine ⟨_, (pss_one (ps_ret (pe_callTy (cK cD_tuple (K := K)) (by rfl) T.z_tuple (by decide +kernel) (pa_cons (pe_lc (own := [("way", 2), ("x", 3), ("y", 4), ("its", 5)]) (g := (gTup K 2 (gCons (gTup K 3 (gCons (gName 3) (gCons (gName 4) (gCons (gName 5) gNil)))) (gCons (gName 2) gNil)))) (tt := tYes) rfl sc_by_ways.nd (kZip (by rfl) T.z_zip (pa_cons (pv 0) (pa_cons (pv 1) pa_nil)) (ek := rfl) (K := K)) (blkOk_by (show blkC ["board", "ways", "way", "x", "y", "its"] (defScope s_by_ways) _ _ = true by decide +kernel)) (fun _ _ _ _ _ => (kTup (K := K) 2 rfl (pgs_cons (kTup (K := K) 3 rfl (pgs_cons (pg_name (i := 3) sc_by_ways.nd rfl (by first | exact Or.inl rfl | exact Or.inr rfl)) (pgs_cons (pg_name (i := 4) sc_by_ways.nd rfl (by first | exact Or.inl rfl | exact Or.inr rfl)) (pgs_cons (pg_name (i := 5) sc_by_ways.nd rfl (by first | exact Or.inl rfl | exact Or.inr rfl)) pgs_nil)))) (pgs_cons (pg_name (i := 2) sc_by_ways.nd rfl (by first | exact Or.inl rfl | exact Or.inr rfl)) pgs_nil)))) (fun _ _ _ _ _ => pts_nil) (fun _ _ _ _ _ => (pe_tup (pa_cons (pv 3) (pa_cons (pv 4) (pa_cons (pv 2) pa_nil)))))) pa_nil)))), ?_⟩
  refine body_end s0 hd q ?_
  refine y_retE (r0 := .dat (.tuple ((b.zip ws).map fun (p : Pin × Way) => .tuple [.int p.1.x, .int p.1.y, eW p.2]))) ?_ ?_ rfl
  · refine x_cb (R := fTuple) (xa_cons (r := .dat (.list ((b.zip ws).map fun (p : Pin × Way) => .tuple [.int p.1.x, .int p.1.y, eW p.2]))) ?_ xa_nil) rfl
    apply x_lcM (b.zip ws) (fun p => RD.dat (.tuple [eP p.1, eW p.2])) (fun p => .tuple [.int p.1.x, .int p.1.y, eW p.2])
    · apply xi_zipT
      walk_at "go"
    · walk_at "go"
    · intro p hp
      walk_at "go"
    · rw [List.length_zip]; omega
  · refine congrArg (fun z => RD.dat (.tuple z)) (a₂ := (byWays b ws).map eP) ?_
    unfold byWays
    rw [List.map_map]
    rfl
theorem ways_pair (row : List Way) : [row ++ [Way.left], row ++ [Way.right]] = [Way.left, .right].map fun w => row ++ [w] := rfl
def F_all_ways : List RD → RD → Prop := fun aa zz => ∃ (n : Nat), (n ≤ 8) ∧ aa = [.dat (eN n)] ∧ zz = .dat (.list ((allWays n).map eWs))
theorem r_all_ways (n : Nat) (hc : n ≤ 8) : F_all_ways [.dat (eN n)] (.dat (.list ((allWays n).map eWs))) := ⟨n, hc, rfl, rfl⟩
abbrev sp_all_ways (K : PySem.W.Frag) : Sp := spD K F_all_ways
local macro_rules | `(tactic| walk_at "g1") => `(tactic| ((with_reducible apply r_all_ways); (try (walk_at "sd"))))
theorem sc_all_ways : FnScope ["many", "found", "at", "row", "way"] ["many"] (defScope s_all_ways) := ⟨rfl, rfl, rfl, by decide +kernel, rfl, by decide +kernel, by decide +kernel⟩
-- slots: 0 many, 1 found, 2 at, 3 row, 4 way
theorem df_all_ways (T : Tx K mg) : Df P w K mg base "all_ways" 1 ["many"] (sp_all_ways K) := by
  obtain ⟨f, fd, hm, F⟩ := T.d_all_ways
  refine ⟨f, fd, hm, F.kp, F.binds (ps := ["many"]) (fun _ _ _ _ _ _ us hl => match us, hl with | [_], _ => rfl), F.ok sc_all_ways (fun vs H Q E h => ?_) (fun cdv A outer s H vs Q E hr h => ?_)⟩
  · obtain ⟨H0, aa, zz, s0, hd, ⟨n, hc, rfl, rfl⟩, q⟩ := h
    exact hd.length
  obtain ⟨H0, aa, zz, s0, hd, ⟨n, hc, rfl, rfl⟩, q⟩ := h
  refine ⟨_, (pss_cons (ps_asg (pe_lst (pa_cons (pe_tup pa_nil) pa_nil)) (pg_name (i := 1) sc_all_ways.nd rfl (by first | exact Or.inl rfl | exact Or.inr rfl))) (pss_cons (ps_for PassesOwn.never rfl (pi_range1 (by rfl) T.z_range (pa_cons (pv 0) pa_nil)) (pg_name (i := 2) sc_all_ways.nd rfl (by first | exact Or.inl rfl | exact Or.inr rfl)) (pss_one (ps_setLc2 (i := 1) (own := [("row", 3), ("way", 4)]) (g := (gName 3)) (tt := tYes) (g1 := (gName 4)) (vs1 := [4]) (tt1 := tYes) rfl sc_all_ways.nd rfl rfl (sw_true rfl rfl rfl (by decide +kernel)) (kSeq (pv 1) (K := K)) (blkOk_by (show blkC ["many", "found", "at", "row", "way"] (defScope s_all_ways) _ _ = true by decide +kernel)) (by decide) (fun _ _ _ _ _ => (pg_name (i := 3) sc_all_ways.nd rfl (by first | exact Or.inl rfl | exact Or.inr rfl))) (fun _ _ _ _ _ => pts_nil) (fun _ _ _ _ _ => (kSeq (pe_tup (pa_cons (pe_gstr (by rfl) T.c_LEFT) (pa_cons (pe_gstr (by rfl) T.c_RIGHT) pa_nil))) (K := K))) (fun _ _ _ _ _ => (pg_name (i := 4) sc_all_ways.nd rfl (by first | exact Or.inl rfl | exact Or.inr rfl))) (fun _ _ _ _ _ => pts_nil) (fun _ _ _ _ _ => (pe_op (oK oD_add (K := K)) (pv 3) (pe_tup (pa_cons (pv 4) pa_nil))))))) (pss_one (ps_ret (pv 1))))), ?_⟩
  refine body_end s0 hd q ?_
  apply y_set1
  · walk_at "go"
  apply y_for1 (xs := List.range n) (enc := fun i => RD.dat (eN i)) (fun i G' M' => M' = [] ∧ ∃ x y z, G' = [some (.dat (eN n)), some (.dat (.list ((allWays i).map eWs))), x, y, z])
  · apply xi_rngN
    · walk_at "go"
    · omega
  · exact ⟨rfl, none, none, none, rfl⟩
  · rintro i x hx G' M' ⟨rfl, g1, g2, g3, rfl⟩
    obtain ⟨rfl, hi⟩ := range_at hx
    have hp : 2 ^ x ≤ 2 ^ 8 := Nat.pow_le_pow_right (by omega) (by omega)
    apply svt
    · walk_at "go"
    apply y_set (r := .dat (.list ((allWays (x + 1)).map eWs)))
    · refine ev_is (r := .dat (.list ((allWays x).flatMap fun row => [Way.left, .right].map fun w => .tuple (row.map eW ++ [eW w])))) ?_ ?_
      · apply x_lc2M (allWays x) (fun row => RD.dat (eWs row)) (fun _ => [Way.left, .right]) (fun _ w => RD.dat (eW w)) (fun row w => .tuple (row.map eW ++ [eW w]))
        · apply xi_listE
          walk_at "go"
        · walk_at "go"
        · intro row hr
          apply xi_tupE
          refine ev_is (r := .dat (.tuple [.str "left", .str "right"])) ?_ rfl
          walk_at "go"
        · intro row hr w hw
          walk_at "go"
        · intro row hr w hw
          have hl := mem_allWays.mp hr
          refine x_op (R := dAdd) (a := .dat (.tuple (row.map eW))) (b := .dat (.tuple [eW w])) ?_ ?_ ⟨rfl, ?_⟩
          · walk_at "go"
          · walk_at "go"
          · rw [List.length_map, hl]
            show _ + 1 ≤ 1000000
            omega
        · refine Nat.le_trans (flat_few 2 _ _ fun row _ => Nat.le_refl _) ?_
          rw [allWays_length]
          omega
      · refine congrArg (fun z => RD.dat (.list z)) ?_
        show _ = ((allWays x).flatMap fun row => [row ++ [Way.left], row ++ [.right]]).map eWs
        rw [List.map_flatMap]
        congr 1
        funext row
        show [_, _] = [eWs (row ++ [Way.left]), eWs (row ++ [.right])]
        unfold eWs
        rw [List.map_append, List.map_append]
        rfl
    · exact ⟨rfl, _, _, _, rfl⟩
  · rintro G' M' ⟨rfl, g1, g2, g3, rfl⟩
    apply y_ret
    · walk_at "go"
    · rw [List.length_range]
theorem dNe_nat (i j : Nat) : dEq true (.dat (eN i)) (.dat (eN j)) (.dat (.bool (!decide (i = j)))) := by
  have := dNe_e i j
  exact this
theorem follow_step (b : Board) (s : Stand) (p : Nat) (r : List Nat) : follow b s (p :: r) = if (Wm.beat b s).own = p then follow b (Wm.beat b s) r else none := rfl
def F_end_of : List RD → RD → Prop := fun aa zz => ∃ (b : Board) (s : Stand) (r : List Nat), (Valid b ∧ StandOk b s ∧ RowOk b r) ∧ aa = [.dat (eB b), .dat (eS s), .dat (eR r)] ∧ zz = .dat (eSO (endOf b s r))
theorem r_end_of (b : Board) (s : Stand) (r : List Nat) (hc : Valid b ∧ StandOk b s ∧ RowOk b r) : F_end_of [.dat (eB b), .dat (eS s), .dat (eR r)] (.dat (eSO (endOf b s r))) := ⟨b, s, r, hc, rfl, rfl⟩
abbrev sp_end_of (K : PySem.W.Frag) : Sp := spD K F_end_of
local macro_rules | `(tactic| walk_at "g1") => `(tactic| ((with_reducible apply r_end_of); (try (walk_at "sd"))))
theorem sc_end_of : FnScope ["board", "stand", "row", "pin"] ["board", "stand", "row"] (defScope s_end_of) := ⟨rfl, rfl, rfl, by decide +kernel, rfl, by decide +kernel, by decide +kernel⟩
-- slots: 0 board, 1 stand, 2 row, 3 pin
theorem df_end_of (T : Tx K mg) (df_beat_by : Df P w K mg base "beat_by" 3 ["board", "stand"] (sp_beat_by K)) : Df P w K mg base "end_of" 4 ["board", "stand", "row"] (sp_end_of K) := by
  obtain ⟨f, fd, hm, F⟩ := T.d_end_of
  refine ⟨f, fd, hm, F.kp, F.binds (ps := ["board", "stand", "row"]) (fun _ _ _ _ _ _ us hl => match us, hl with | [_, _, _], _ => rfl), F.ok sc_end_of (fun vs H Q E h => ?_) (fun cdv A outer s H vs Q E hr h => ?_)⟩
  · obtain ⟨H0, aa, zz, s0, hd, ⟨b, s, r, hc, rfl, rfl⟩, q⟩ := h
    exact hd.length
  obtain ⟨H0, aa, zz, s0, hd, ⟨b, s, r, hc, rfl, rfl⟩, q⟩ := h
  refine ⟨_, (pss_cons (ps_if (pt_cmpR (oK (oD_ne hr.units) (K := K)) (pe_ix (xK ixD (K := K)) (pv 1) pe_int (fun _ _ => rfl)) (pe_ix (xK ixD (K := K)) (pv 2) pe_int (fun _ _ => rfl)) (nomark _)) (pss_one (ps_ret pe_non)) pss_nil) (pss_cons (ps_for PassesOwn.never rfl (kSeq (pe_slice (lK slD (K := K)) (pv 2) (po_some pe_int) po_none) (K := K)) (pg_name (i := 3) sc_end_of.nd rfl (by first | exact Or.inl rfl | exact Or.inr rfl)) (pss_cons (ps_asg (pe_df df_beat_by (hr.mono (by decide)) (by rfl) (pa_cons (pv 0) (pa_cons (pv 1) pa_nil))) (pg_name (i := 1) sc_end_of.nd rfl (by first | exact Or.inl rfl | exact Or.inr rfl))) (pss_one (ps_if (pt_cmpR (oK (oD_ne hr.units) (K := K)) (pe_ix (xK ixD (K := K)) (pv 1) pe_int (fun _ _ => rfl)) (pv 3) (nomark _)) (pss_one (ps_ret pe_non)) pss_nil)))) (pss_one (ps_ret (pv 1))))), ?_⟩
  refine body_end s0 hd q ?_
  obtain ⟨h1, h2, h3, h4, h5⟩ := hc
  cases r with
  | nil => simp at h3
  | cons q0 r =>
    apply y_guard (b := !decide (s.own = q0))
    · refine xt_test (x_op (a := .dat (eN s.own)) (b := .dat (eN q0)) ?_ ?_ (dNe_nat s.own q0))
      · walk_at "go"
      · refine x_op (R := dIx) (a := .dat (eR (q0 :: r))) (b := .dat (.int 0)) ?_ ?_ (ix_row (r := q0 :: r) (i := 0) rfl) <;> walk_at "go"
    · intro hb
      have hne : s.own ≠ q0 := by simpa using hb
      have e : endOf b s (q0 :: r) = none := by
        unfold endOf
        simp only
        rw [if_neg hne]
      rw [e]
      apply y_ret
      · walk_at "go"
      · rfl
    · intro hb
      have heq : s.own = q0 := by simpa using hb
      have e : endOf b s (q0 :: r) = follow b s r := by
        unfold endOf
        simp only
        rw [if_pos heq]
      rw [e]
      apply y_for1 (xs := r) (enc := fun i => RD.dat (eN i)) (fun i G' M' => M' = [] ∧ ∃ t x, StandOk b t ∧ follow b t (r.drop i) = follow b s r ∧ G' = [some (.dat (eB b)), some (.dat (eS t)), some (.dat (eR (q0 :: r))), x])
      · apply xi_tupE
        refine ev_is (r := .dat (.tuple (cutD ((q0 :: r).map eN) (some ((1 : Nat) : Int)) none))) ?_ ?_
        · walk_at "go"
        · rw [cut_from]; rfl
      · exact ⟨rfl, s, none, h2, rfl, rfl⟩
      · rintro i x hx G' M' ⟨rfl, t, g1, ht, hf, rfl⟩
        have hd : r.drop i = x :: r.drop (i + 1) := by
          obtain ⟨hl, hx'⟩ := List.getElem?_eq_some_iff.mp hx
          rw [List.drop_eq_getElem_cons hl, hx']
        rw [hd, follow_step] at hf
        apply svt
        · walk_at "go"
        apply y_set1 (r := .dat (eS (Wm.beat b t)))
        · walk_at "go"
        apply y_if (b := !decide ((Wm.beat b t).own = x))
        · refine xt_test (x_op (a := .dat (eN (Wm.beat b t).own)) (b := .dat (eN x)) ?_ ?_ (dNe_nat _ x))
          · refine x_op (R := dIx) (a := .dat (eS (Wm.beat b t))) (b := .dat (.int 0)) ?_ ?_ ⟨_, rfl, rfl⟩ <;> walk_at "go"
          · walk_at "go"
        · intro hb
          have hne : (Wm.beat b t).own ≠ x := by simpa using hb
          rw [if_neg hne] at hf
          apply y_ret (r := .dat .none)
          · walk_at "go"
          · show Oc.rt _ _ = _
            rw [← hf]
            rfl
        · intro hb
          have heq : (Wm.beat b t).own = x := by simpa using hb
          rw [if_pos heq] at hf
          apply sv_nil
          exact ⟨rfl, _, _, beat_ok h1 ht, hf, rfl⟩
      · rintro G' M' ⟨rfl, t, g1, ht, hf, rfl⟩
        rw [List.drop_length] at hf
        rw [← hf]
        apply y_ret
        · walk_at "go"
        · rfl
end
end Wk
end
section
set_option Elab.async false
set_option linter.all false
set_option autoImplicit false
set_option maxRecDepth 100000
set_option maxHeartbeats 4000000
namespace Wk
open PySem L2 Wp Wm
/-! ### the words of the evaluation -/
local macro_rules | `(tactic| walk_at "sd") => `(tactic| first
  | assumption
  | exact trivial
  | exact rfl
  | omega
  | (refine ⟨?_, ?_⟩ <;> (walk_at "sd")))
local macro_rules | `(tactic| walk_at "g1") => `(tactic| first
  | ((with_reducible apply ev_var); exact rfl)
  | with_reducible exact ev_int
  | with_reducible exact ev_str
  | with_reducible exact ev_bl
  | with_reducible exact ev_non
  | with_reducible exact ev_raw
  | exact ev_int
  | with_reducible exact xa_nil
  | with_reducible exact xd_nil
  | with_reducible exact eo_none
  | with_reducible apply x_op
  | with_reducible apply x_cb
  | with_reducible apply x_call
  | with_reducible apply x_tup
  | with_reducible apply x_lst
  | with_reducible apply xa_cons
  | with_reducible apply xd_cons
  | with_reducible apply xo_some
  | with_reducible apply x_un
  | with_reducible apply x_sl
  | with_reducible apply x_if
  | with_reducible apply x_and
  | with_reducible apply x_or
  | with_reducible apply x_not
  | with_reducible apply x_chain
  | with_reducible apply xt_test
  | with_reducible apply xt_B
  | with_reducible apply xt_not
  | with_reducible apply xt_and
  | with_reducible apply xt_or
  | ((with_reducible refine fun _ => ?_); first | with_reducible show EvG _ _ _ _ _ _ _ | with_reducible show EtG _ _ _ _ _ _ _)
  | ((with_reducible refine fun _ _ => ?_); first | with_reducible show TgW _ _ _ _ _ _ | with_reducible show EvG _ _ _ _ _ _ _ | with_reducible show EtG _ _ _ _ _ _ _)
  | exact rfl
  | assumption
  | exact ⟨_, rfl, rfl⟩
  | exact ⟨_, by assumption, rfl⟩
  | exact ⟨trivial, rfl⟩
  | exact Or.inl rfl
  | exact ⟨rfl, rfl, rfl⟩
  | exact ⟨by decide, rfl⟩
  | exact ⟨by assumption, rfl⟩
  | exact ⟨rfl, by assumption⟩
  | exact ⟨rfl, by decide⟩
  | (show List.length _ ≤ 1000; exact Nat.le_of_ble_eq_true rfl)
  | fail "open")
local macro_rules | `(tactic| walk_at "go") => `(tactic| repeat' (walk_at "g1"))
local macro_rules | `(tactic| walk_at "g1") => `(tactic| ((with_reducible apply ix_pin); (try (walk_at "sd"))))
local macro_rules | `(tactic| walk_at "g1") => `(tactic| first
  | with_reducible exact tw_name
  | with_reducible apply tw_tup
  | with_reducible exact tws_nil
  | with_reducible apply tws_cons
  | with_reducible exact tg_name
  | with_reducible apply tg_tup
  | with_reducible exact tgs_nil
  | with_reducible apply tgs_cons
  | with_reducible exact r_all _ _
  | with_reducible exact r_sum _ _
  | with_reducible exact r_len _
  | with_reducible exact r_lenT _)
local macro_rules | `(tactic| walk_at "g1") => `(tactic| first
  | with_reducible exact dEq_wayL _
  | with_reducible exact dEq_wordA _
  | with_reducible exact dEq_wordB _
  | with_reducible exact dEq_int _ _
  | with_reducible exact dNe_int _ _
  | with_reducible exact dEq_bool _ _
  | with_reducible exact r_all2 _ _ _
  | with_reducible exact dIn_nats _ _
  | with_reducible exact dNotIn_nats _ _)
local macro_rules | `(tactic| walk_at "g1") => `(tactic| first
  | ((with_reducible apply dMod_at); (walk_at "sd"))
  | ((with_reducible apply dDiv_at); (walk_at "sd"))
  | ((with_reducible apply dMul_at); (walk_at "sd")))

section
variable {P : Program} {w : World} {K : PySem.W.Frag} {mg : Str → Option Value} {base : Heap}
local macro_rules | `(tactic| walk_at "g1") => `(tactic| ((with_reducible apply r_is_whole); (try (walk_at "sd"))))
local macro_rules | `(tactic| walk_at "g1") => `(tactic| ((with_reducible apply r_is_within); (try (walk_at "sd"))))
local macro_rules | `(tactic| walk_at "g1") => `(tactic| ((with_reducible apply r_is_long); (try (walk_at "sd"))))
local macro_rules | `(tactic| walk_at "g1") => `(tactic| ((with_reducible apply r_rises); (try (walk_at "sd"))))
local macro_rules | `(tactic| walk_at "g1") => `(tactic| ((with_reducible apply r_is_way); (try (walk_at "sd"))))
local macro_rules | `(tactic| walk_at "g1") => `(tactic| ((with_reducible apply r_other_way); (try (walk_at "sd"))))
local macro_rules | `(tactic| walk_at "g1") => `(tactic| ((with_reducible apply r_is_pin_by); (try (walk_at "sd"))))
local macro_rules | `(tactic| walk_at "g1") => `(tactic| ((with_reducible apply r_cross); (try (walk_at "sd"))))
local macro_rules | `(tactic| walk_at "g1") => `(tactic| ((with_reducible apply r_between); (try (walk_at "sd"))))
local macro_rules | `(tactic| walk_at "g1") => `(tactic| ((with_reducible apply r_pairs_of); (try (walk_at "sd"))))
local macro_rules | `(tactic| walk_at "g1") => `(tactic| ((with_reducible apply r_is_board); (try (walk_at "sd"))))
local macro_rules | `(tactic| walk_at "g1") => `(tactic| ((with_reducible apply r_need_board); (try (walk_at "sd"))))
local macro_rules | `(tactic| walk_at "g1") => `(tactic| ((with_reducible apply r_need_pins); (try (walk_at "sd"))))
local macro_rules | `(tactic| walk_at "g1") => `(tactic| ((with_reducible apply r_with_ways_by); (try (walk_at "sd"))))
local macro_rules | `(tactic| walk_at "g1") => `(tactic| ((with_reducible apply r_with_ways); (try (walk_at "sd"))))
local macro_rules | `(tactic| walk_at "g1") => `(tactic| ((with_reducible apply r_mirrored); (try (walk_at "sd"))))
local macro_rules | `(tactic| walk_at "g1") => `(tactic| ((with_reducible apply r_other_word); (try (walk_at "sd"))))
local macro_rules | `(tactic| walk_at "g1") => `(tactic| ((with_reducible apply r_turned_about); (try (walk_at "sd"))))
local macro_rules | `(tactic| walk_at "g1") => `(tactic| ((with_reducible apply r_is_stand_by); (try (walk_at "sd"))))
local macro_rules | `(tactic| walk_at "g1") => `(tactic| ((with_reducible apply r_need_stand); (try (walk_at "sd"))))
local macro_rules | `(tactic| walk_at "g1") => `(tactic| ((with_reducible apply r_look_of); (try (walk_at "sd"))))
local macro_rules | `(tactic| walk_at "g1") => `(tactic| ((with_reducible apply r_met_first); (try (walk_at "sd"))))
local macro_rules | `(tactic| walk_at "g1") => `(tactic| ((with_reducible apply r_beside); (try (walk_at "sd"))))
local macro_rules | `(tactic| walk_at "g1") => `(tactic| ((with_reducible apply r_beat_by); (try (walk_at "sd"))))
local macro_rules | `(tactic| walk_at "g1") => `(tactic| ((with_reducible apply r_beat); (try (walk_at "sd"))))
local macro_rules | `(tactic| walk_at "g1") => `(tactic| ((with_reducible apply r_all_stands); (try (walk_at "sd"))))
local macro_rules | `(tactic| walk_at "g1") => `(tactic| ((with_reducible apply r_need_row); (try (walk_at "sd"))))
local macro_rules | `(tactic| walk_at "g1") => `(tactic| ((with_reducible apply r_need_seen); (try (walk_at "sd"))))
local macro_rules | `(tactic| walk_at "g1") => `(tactic| ((with_reducible apply r_by_ways); (try (walk_at "sd"))))
local macro_rules | `(tactic| walk_at "g1") => `(tactic| ((with_reducible apply r_all_ways); (try (walk_at "sd"))))
local macro_rules | `(tactic| walk_at "g1") => `(tactic| ((with_reducible apply r_end_of); (try (walk_at "sd"))))
theorem stories_part (b : Board) (row : List Nat) (ws : List Way) : ((allStands (byWays b ws)).filter fun s => (endOf (byWays b ws) s row).isSome).map (fun s => PyData.tuple [eWs ws, eS s, eSO (endOf (byWays b ws) s row)]) = ((allStands (byWays b ws)).filterMap fun s => (endOf (byWays b ws) s row).map fun e => (ws, s, e)).map eT := by
  induction allStands (byWays b ws) with
  | nil => rfl
  | cons s l ih =>
    rw [List.filter_cons, List.filterMap_cons]
    cases h : endOf (byWays b ws) s row with
    | none => simpa [h] using ih
    | some e => simpa [h, eSO] using ih
def F_stories : List RD → RD → Prop := fun aa zz => ∃ (b : Board) (r : List Nat), (Valid b ∧ RowOk b r ∧ b.length ≤ 5) ∧ aa = [.dat (eB b), .dat (eR r)] ∧ zz = .dat (.list ((Wm.stories b r).map eT))
theorem r_stories (b : Board) (r : List Nat) (hc : Valid b ∧ RowOk b r ∧ b.length ≤ 5) : F_stories [.dat (eB b), .dat (eR r)] (.dat (.list ((Wm.stories b r).map eT))) := ⟨b, r, hc, rfl, rfl⟩
abbrev sp_stories (K : PySem.W.Frag) : Sp := spD K F_stories
local macro_rules | `(tactic| walk_at "g1") => `(tactic| ((with_reducible apply r_stories); (try (walk_at "sd"))))
theorem sc_stories : FnScope ["board", "row", "found", "ways", "its", "ends", "stand", "end"] ["board", "row"] (defScope s_stories) := ⟨rfl, rfl, rfl, by decide +kernel, rfl, by decide +kernel, by decide +kernel⟩
-- slots: 0 board, 1 row, 2 found, 3 ways, 4 its, 5 ends, 6 stand, 7 end
theorem df_stories (T : Tx K mg) (df_all_stands : Df P w K mg base "all_stands" 1 ["board"] (sp_all_stands K)) (df_all_ways : Df P w K mg base "all_ways" 1 ["many"] (sp_all_ways K)) (df_by_ways : Df P w K mg base "by_ways" 1 ["board", "ways"] (sp_by_ways K)) (df_end_of : Df P w K mg base "end_of" 4 ["board", "stand", "row"] (sp_end_of K)) : Df P w K mg base "stories" 5 ["board", "row"] (sp_stories K) := by
  obtain ⟨f, fd, hm, F⟩ := T.d_stories
  refine ⟨f, fd, hm, F.kp, F.binds (ps := ["board", "row"]) (fun _ _ _ _ _ _ us hl => match us, hl with | [_, _], _ => rfl), F.ok sc_stories (fun vs H Q E h => ?_) (fun cdv A outer s H vs Q E hr h => ?_)⟩
  · obtain ⟨H0, aa, zz, s0, hd, ⟨b, r, hc, rfl, rfl⟩, q⟩ := h
    exact hd.length
  obtain ⟨H0, aa, zz, s0, hd, ⟨b, r, hc, rfl, rfl⟩, q⟩ := h
  refine ⟨_, (pss_cons (ps_asg (pe_lst pa_nil) (pg_name (i := 2) sc_stories.nd rfl (by first | exact Or.inl rfl | exact Or.inr rfl))) (pss_cons (ps_for PassesOwn.never rfl (kSeq (pe_df df_all_ways (hr.mono (by decide)) (by rfl) (pa_cons (pe_callB (cK cD_lenA (K := K) (R' := fLenA P w)) (by rfl) T.z_len (by decide +kernel) (pa_cons (pv 0) pa_nil)) pa_nil)) (K := K)) (pg_name (i := 3) sc_stories.nd rfl (by first | exact Or.inl rfl | exact Or.inr rfl)) (pss_cons (ps_asg (pe_df df_by_ways (hr.mono (by decide)) (by rfl) (pa_cons (pv 0) (pa_cons (pv 3) pa_nil))) (pg_name (i := 4) sc_stories.nd rfl (by first | exact Or.inl rfl | exact Or.inr rfl))) (pss_cons (ps_setLc (i := 5) (own := [("stand", 6)]) (g := (gName 6)) (tt := tYes) rfl sc_stories.nd rfl rfl (sw_true rfl rfl rfl (by decide +kernel)) (kSeq (pe_df df_all_stands (hr.mono (by decide)) (by rfl) (pa_cons (pv 4) pa_nil)) (K := K)) (blkOk_by (show blkC ["board", "row", "found", "ways", "its", "ends", "stand", "end"] (defScope s_stories) _ _ = true by decide +kernel)) (fun _ _ _ _ _ => (pg_name (i := 6) sc_stories.nd rfl (by first | exact Or.inl rfl | exact Or.inr rfl))) (fun _ _ _ _ _ => pts_nil) (fun _ _ _ _ _ => (pe_tup (pa_cons (pv 6) (pa_cons (pe_df df_end_of (hr.mono (by decide)) (by rfl) (pa_cons (pv 4) (pa_cons (pv 6) (pa_cons (pv 1) pa_nil)))) pa_nil))))) (pss_one (ps_expr (pe_bm PySem.F.plainAttrs_list PySem.F.slot_list_extend PySem.F.type_list_extend mt_extend (pv 2) (pa_cons (pe_lc (own := [("stand", 6), ("end", 7)]) (g := (gTup K 2 (gCons (gName 6) (gCons (gName 7) gNil)))) rfl sc_stories.nd (kSeq (pv 5) (K := K)) (blkOk_by (show blkC ["board", "row", "found", "ways", "its", "ends", "stand", "end"] (defScope s_stories) _ _ = true by decide +kernel)) (fun _ _ _ _ _ => (kTup (K := K) 2 rfl (pgs_cons (pg_name (i := 6) sc_stories.nd rfl (by first | exact Or.inl rfl | exact Or.inr rfl)) (pgs_cons (pg_name (i := 7) sc_stories.nd rfl (by first | exact Or.inl rfl | exact Or.inr rfl)) pgs_nil)))) (fun _ _ _ _ _ => (pts_one (pt_cmpR (oK oD_isnot (K := K)) (pv 7) pe_non (nomark _)))) (fun _ _ _ _ _ => (pe_tup (pa_cons (pv 3) (pa_cons (pv 6) (pa_cons (pv 7) pa_nil)))))) pa_nil))))))) (pss_one (ps_ret (pv 2))))), ?_⟩
  refine body_end s0 hd q ?_
  obtain ⟨h1, h2, h3⟩ := hc
  refine sv_newLF (ds := []) (by with_reducible exact xd_nil) (by decide) fun p => ?_
  have hpart : ∀ i, (((allWays b.length).take i).flatMap fun ws => (allStands (byWays b ws)).filterMap fun s => (endOf (byWays b ws) s r).map fun e => (ws, s, e)).length ≤ 1600 := fun i => by
    refine Nat.le_trans (flat_few 50 _ _ fun ws hw => ?_) ?_
    · refine Nat.le_trans (List.length_filterMap_le _ _) (stand_few _ 5 ?_)
      rw [byWays_length (mem_allWays.mp (List.mem_of_mem_take hw))]
      exact h3
    · rw [List.length_take, allWays_length]
      have : 2 ^ b.length ≤ 2 ^ 5 := Nat.pow_le_pow_right (by omega) h3
      omega
  apply y_for (xs := allWays b.length) (enc := fun ws => RD.dat (eWs ws)) (fun i G' M' => M' = [.lst ((((allWays b.length).take i).flatMap fun ws => (allStands (byWays b ws)).filterMap fun s => (endOf (byWays b ws) s r).map fun e => (ws, s, e)).map eT)] ∧ ∃ x y z t u, G' = [some (.dat (eB b)), some (.dat (eR r)), some (.raw (.ref p)), x, y, z, t, u])
  · apply xi_listE
    walk_at "go"
  · exact ⟨rfl, none, none, none, none, none, rfl⟩
  · rintro i ws hx G' M' ⟨rfl, g1, g2, g3, g4, g5, rfl⟩
    have hw := mem_allWays.mp (List.mem_of_getElem? hx)
    have lk := like_byWays hw
    have hv := lk.valid h1
    have hl : (byWays b ws).length ≤ 5 := by rw [lk.len]; exact h3
    have hro : RowOk (byWays b ws) r := ⟨h2.1, h2.2.1, by rw [lk.len]; exact h2.2.2⟩
    have hfew := stand_few _ 5 hl
    apply svt
    · walk_at "go"
    apply y_set1 (r := .dat (eB (byWays b ws)))
    · walk_at "go"
    apply y_set1 (r := .dat (.list ((allStands (byWays b ws)).map fun s => .tuple [eS s, eSO (endOf (byWays b ws) s r)])))
    · apply x_lcM (allStands (byWays b ws)) (fun s => RD.dat (eS s)) (fun s => .tuple [eS s, eSO (endOf (byWays b ws) s r)])
      · apply xi_listE
        walk_at "go"
      · walk_at "go"
      · intro s hs
        have hs' := mem_allStands.mp hs
        walk_at "go"
      · omega
    apply sv_ext (j := 0) (p := p) (es := ((allStands (byWays b ws)).filter fun s => (endOf (byWays b ws) s r).isSome).map (fun s => PyData.tuple [eWs ws, eS s, eSO (endOf (byWays b ws) s r)]))
    · walk_at "go"
    · apply x_lcP (allStands (byWays b ws)) (fun s => RD.dat (.tuple [eS s, eSO (endOf (byWays b ws) s r)])) (fun s => (endOf (byWays b ws) s r).isSome) (fun s => PyData.tuple [eWs ws, eS s, eSO (endOf (byWays b ws) s r)])
      · apply xi_listE
        walk_at "go"
      · walk_at "go"
      · intro s hs
        refine xt_test (x_op (R := dIs true) (a := .dat (eSO (endOf (byWays b ws) s r))) (b := .dat .none) ?_ ?_ (dIs_SO true _)) <;> walk_at "go"
      · intro s hs _
        walk_at "go"
      · omega
    · rfl
    · rfl
    · rfl
    · rw [stories_part, List.length_map, List.length_map]
      have e1 := hpart i
      have e2 : ((allStands (byWays b ws)).filterMap fun s => (endOf (byWays b ws) s r).map fun e => (ws, s, e)).length ≤ 50 := Nat.le_trans (List.length_filterMap_le _ _) hfew
      unfold big
      omega
    · rw [stories_part]
      refine ⟨congrArg (fun z => [Mu.lst z]) ?_, _, _, _, _, _, rfl⟩
      rw [List.take_add_one, hx]
      simp only [List.flatMap_append, List.map_append]
      congr 1
      show _ = List.map eT ([ws].flatMap _)
      rw [List.flatMap_cons, List.flatMap_nil, List.append_nil]
  · rintro G' M' ⟨rfl, g1, g2, g3, g4, g5, rfl⟩
    rw [List.take_length]
    refine ⟨[], _, rfl, rfl, ?_⟩
    apply y_ret
    · walk_at "go"
    · rfl
def F_many_stories : List RD → RD → Prop := fun aa zz => ∃ (b : Board) (r : List Nat), (Valid b ∧ RowOk b r ∧ b.length ≤ 5) ∧ aa = [.dat (eB b), .dat (eR r)] ∧ zz = .dat (eN (Wm.stories b r).length)
theorem r_many_stories (b : Board) (r : List Nat) (hc : Valid b ∧ RowOk b r ∧ b.length ≤ 5) : F_many_stories [.dat (eB b), .dat (eR r)] (.dat (eN (Wm.stories b r).length)) := ⟨b, r, hc, rfl, rfl⟩
abbrev sp_many_stories (K : PySem.W.Frag) : Sp := spD K F_many_stories
local macro_rules | `(tactic| walk_at "g1") => `(tactic| ((with_reducible apply r_many_stories); (try (walk_at "sd"))))
theorem sc_many_stories : FnScope ["board", "row"] ["board", "row"] (defScope s_many_stories) := ⟨rfl, rfl, rfl, by decide +kernel, rfl, by decide +kernel, by decide +kernel⟩
-- slots: 0 board, 1 row
theorem df_many_stories (T : Tx K mg) (df_need_seen : Df P w K mg base "need_seen" 6 ["board", "row"] (sp_need_seen K)) (df_stories : Df P w K mg base "stories" 5 ["board", "row"] (sp_stories K)) : Df P w K mg base "many_stories" 7 ["board", "row"] (sp_many_stories K) := by
  obtain ⟨f, fd, hm, F⟩ := T.d_many_stories
  refine ⟨f, fd, hm, F.kp, F.binds (ps := ["board", "row"]) (fun _ _ _ _ _ _ us hl => match us, hl with | [_, _], _ => rfl), F.ok sc_many_stories (fun vs H Q E h => ?_) (fun cdv A outer s H vs Q E hr h => ?_)⟩
  · obtain ⟨H0, aa, zz, s0, hd, ⟨b, r, hc, rfl, rfl⟩, q⟩ := h
    exact hd.length
  obtain ⟨H0, aa, zz, s0, hd, ⟨b, r, hc, rfl, rfl⟩, q⟩ := h
  refine ⟨_, (pss_cons (ps_expr (pe_df df_need_seen (hr.mono (by decide)) (by rfl) (pa_cons (pv 0) (pa_cons (pv 1) pa_nil)))) (pss_one (ps_ret (pe_callB (cK cD_lenA (K := K) (R' := fLenA P w)) (by rfl) T.z_len (by decide +kernel) (pa_cons (pe_df df_stories (hr.mono (by decide)) (by rfl) (pa_cons (pv 0) (pa_cons (pv 1) pa_nil))) pa_nil))))), ?_⟩
  refine body_end s0 hd q ?_
  obtain ⟨h1, h2, h3⟩ := hc
  apply y_drop1
  · walk_at "go"
  apply y_ret
  · walk_at "go"
  · rfl
abbrev eTO (o : Option Story) : PyData := match o with | none => .none | some t => .tuple [eWs t.1, eS t.2.1]
def F_some_story : List RD → RD → Prop := fun aa zz => ∃ (b : Board) (r : List Nat), (Valid b ∧ RowOk b r ∧ b.length ≤ 5) ∧ aa = [.dat (eB b), .dat (eR r)] ∧ zz = .dat (eTO (Wm.stories b r).head?)
theorem r_some_story (b : Board) (r : List Nat) (hc : Valid b ∧ RowOk b r ∧ b.length ≤ 5) : F_some_story [.dat (eB b), .dat (eR r)] (.dat (eTO (Wm.stories b r).head?)) := ⟨b, r, hc, rfl, rfl⟩
abbrev sp_some_story (K : PySem.W.Frag) : Sp := spD K F_some_story
local macro_rules | `(tactic| walk_at "g1") => `(tactic| ((with_reducible apply r_some_story); (try (walk_at "sd"))))
theorem sc_some_story : FnScope ["board", "row", "some"] ["board", "row"] (defScope s_some_story) := ⟨rfl, rfl, rfl, by decide +kernel, rfl, by decide +kernel, by decide +kernel⟩
-- slots: 0 board, 1 row, 2 some
theorem df_some_story (T : Tx K mg) (df_need_seen : Df P w K mg base "need_seen" 6 ["board", "row"] (sp_need_seen K)) (df_stories : Df P w K mg base "stories" 5 ["board", "row"] (sp_stories K)) : Df P w K mg base "some_story" 7 ["board", "row"] (sp_some_story K) := by
  obtain ⟨f, fd, hm, F⟩ := T.d_some_story
  refine ⟨f, fd, hm, F.kp, F.binds (ps := ["board", "row"]) (fun _ _ _ _ _ _ us hl => match us, hl with | [_, _], _ => rfl), F.ok sc_some_story (fun vs H Q E h => ?_) (fun cdv A outer s H vs Q E hr h => ?_)⟩
  · obtain ⟨H0, aa, zz, s0, hd, ⟨b, r, hc, rfl, rfl⟩, q⟩ := h
    exact hd.length
  obtain ⟨H0, aa, zz, s0, hd, ⟨b, r, hc, rfl, rfl⟩, q⟩ := h
  refine ⟨_, (pss_cons (ps_expr (pe_df df_need_seen (hr.mono (by decide)) (by rfl) (pa_cons (pv 0) (pa_cons (pv 1) pa_nil)))) (pss_cons (ps_asg (pe_df df_stories (hr.mono (by decide)) (by rfl) (pa_cons (pv 0) (pa_cons (pv 1) pa_nil))) (pg_name (i := 2) sc_some_story.nd rfl (by first | exact Or.inl rfl | exact Or.inr rfl))) (pss_one (ps_ret (pe_ifExp (pt_cmpR (oK (oD_ne hr.units) (K := K)) (pv 2) (pe_lst pa_nil) (nomark _)) (pe_slice (lK slD (K := K)) (pe_ix (xK ixD (K := K)) (pv 2) pe_int (fun _ _ => rfl)) po_none (po_some pe_int)) pe_non))))), ?_⟩
  refine body_end s0 hd q ?_
  obtain ⟨h1, h2, h3⟩ := hc
  apply y_drop1
  · walk_at "go"
  apply y_set1 (r := .dat (.list ((Wm.stories b r).map eT)))
  · walk_at "go"
  cases hs : Wm.stories b r with
  | nil =>
    apply y_ret (r := .dat .none)
    · apply x_ifF
      · refine xt_test (x_op (R := dEq true) (a := .dat (.list (([] : List Story).map eT))) (b := .dat (.list [])) ?_ ?_ (dNe_nil 2 ok_T (by decide) [])) <;> walk_at "go"
      · walk_at "go"
    · rfl
  | cons t ts =>
    apply y_ret (r := .dat (.tuple [eWs t.1, eS t.2.1]))
    · apply x_ifT
      · refine xt_test (x_op (R := dEq true) (a := .dat (.list ((t :: ts).map eT))) (b := .dat (.list [])) ?_ ?_ (dNe_nil 2 ok_T (by decide) (t :: ts))) <;> walk_at "go"
      · refine ev_is (r := .dat (.tuple (cutD [eWs t.1, eS t.2.1, eS t.2.2] none (some ((2 : Nat) : Int))))) (x_sl (a := .dat (eT t)) (x_op (R := dIx) (a := .dat (.list ((t :: ts).map eT))) (b := .dat (.int 0)) ?_ ?_ ⟨_, at_map (xs := t :: ts) (i := 0) rfl, rfl⟩) ?_ ?_ rfl) ?_
        · walk_at "go"
        · walk_at "go"
        · walk_at "go"
        · exact xo_some ev_int
        · rw [cut_upto]; rfl
    · rfl
def F_is_story : List RD → RD → Prop := fun aa zz => ∃ (b : Board) (r : List Nat) (ws : List Way) (s : Stand), (Valid b ∧ RowOk b r ∧ ws.length = b.length ∧ StandOk b s) ∧ aa = [.dat (eB b), .dat (eR r), .dat (.tuple [eWs ws, eS s])] ∧ zz = .dat (.bool (endOf (byWays b ws) s r).isSome)
theorem r_is_story (b : Board) (r : List Nat) (ws : List Way) (s : Stand) (hc : Valid b ∧ RowOk b r ∧ ws.length = b.length ∧ StandOk b s) : F_is_story [.dat (eB b), .dat (eR r), .dat (.tuple [eWs ws, eS s])] (.dat (.bool (endOf (byWays b ws) s r).isSome)) := ⟨b, r, ws, s, hc, rfl, rfl⟩
abbrev sp_is_story (K : PySem.W.Frag) : Sp := spD K F_is_story
local macro_rules | `(tactic| walk_at "g1") => `(tactic| ((with_reducible apply r_is_story); (try (walk_at "sd"))))
theorem sc_is_story : FnScope ["board", "row", "thing", "one"] ["board", "row", "thing"] (defScope s_is_story) := ⟨rfl, rfl, rfl, by decide +kernel, rfl, by decide +kernel, by decide +kernel⟩
-- slots: 0 board, 1 row, 2 thing, 3 one
theorem df_is_story (T : Tx K mg) (df_by_ways : Df P w K mg base "by_ways" 1 ["board", "ways"] (sp_by_ways K)) (df_end_of : Df P w K mg base "end_of" 4 ["board", "stand", "row"] (sp_end_of K)) (df_is_long : Df P w K mg base "is_long" 1 ["thing", "least", "most"] (sp_is_long K)) (df_is_stand_by : Df P w K mg base "is_stand_by" 3 ["board", "thing"] (sp_is_stand_by K)) (df_is_way : Df P w K mg base "is_way" 1 ["thing"] (sp_is_way K)) (df_need_seen : Df P w K mg base "need_seen" 6 ["board", "row"] (sp_need_seen K)) : Df P w K mg base "is_story" 7 ["board", "row", "thing"] (sp_is_story K) := by
  obtain ⟨f, fd, hm, F⟩ := T.d_is_story
  refine ⟨f, fd, hm, F.kp, F.binds (ps := ["board", "row", "thing"]) (fun _ _ _ _ _ _ us hl => match us, hl with | [_, _, _], _ => rfl), F.ok sc_is_story (fun vs H Q E h => ?_) (fun cdv A outer s H vs Q E hr h => ?_)⟩
  · obtain ⟨H0, aa, zz, s0, hd, ⟨b, r, ws, s, hc, rfl, rfl⟩, q⟩ := h
    exact hd.length
  obtain ⟨H0, aa, zz, s0, hd, ⟨b, r, ws, s, hc, rfl, rfl⟩, q⟩ := h
  refine ⟨_, (pss_cons (ps_expr (pe_df df_need_seen (hr.mono (by decide)) (by rfl) (pa_cons (pv 0) (pa_cons (pv 1) pa_nil)))) (pss_cons (ps_if (PW.pt (pw_or (pt_not (pt_val (pe_df df_is_long (hr.mono (by decide)) (by rfl) (pa_cons (pv 2) (pa_cons pe_int (pa_cons pe_int pa_nil)))))) (pw_or1 (pt_not (pt_val (pe_df df_is_long (hr.mono (by decide)) (by rfl) (pa_cons (pe_ix (xK ixD (K := K)) (pv 2) pe_int (fun _ _ => rfl)) (pa_cons (pe_callB (cK cD_lenA (K := K) (R' := fLenA P w)) (by rfl) T.z_len (by decide +kernel) (pa_cons (pv 0) pa_nil)) (pa_cons (pe_callB (cK cD_lenA (K := K) (R' := fLenA P w)) (by rfl) T.z_len (by decide +kernel) (pa_cons (pv 0) pa_nil)) pa_nil))))))))) (pss_one (ps_ret pe_bl)) pss_nil) (pss_cons (ps_if (PW.pt (pw_or (pt_not (pt_val (pe_callB (cK (cD_all rfl) (K := K)) (by rfl) T.z_all (by decide +kernel) (pa_cons (pe_lc (own := [("one", 3)]) (g := (gName 3)) (tt := tYes) rfl sc_is_story.nd (kSeq (pe_ix (xK ixD (K := K)) (pv 2) pe_int (fun _ _ => rfl)) (K := K)) (blkOk_by (show blkC ["board", "row", "thing", "one"] (defScope s_is_story) _ _ = true by decide +kernel)) (fun _ _ _ _ _ => (pg_name (i := 3) sc_is_story.nd rfl (by first | exact Or.inl rfl | exact Or.inr rfl))) (fun _ _ _ _ _ => pts_nil) (fun _ _ _ _ _ => (pe_df df_is_way (hr.mono (by decide)) (by rfl) (pa_cons (pv 3) pa_nil)))) pa_nil)))) (pw_or1 (pt_not (pt_val (pe_df df_is_stand_by (hr.mono (by decide)) (by rfl) (pa_cons (pv 0) (pa_cons (pe_ix (xK ixD (K := K)) (pv 2) pe_int (fun _ _ => rfl)) pa_nil)))))))) (pss_one (ps_ret pe_bl)) pss_nil) (pss_one (ps_ret (pe_cmpR (oK oD_isnot (K := K)) (pe_df df_end_of (hr.mono (by decide)) (by rfl) (pa_cons (pe_df df_by_ways (hr.mono (by decide)) (by rfl) (pa_cons (pv 0) (pa_cons (pe_ix (xK ixD (K := K)) (pv 2) pe_int (fun _ _ => rfl)) pa_nil))) (pa_cons (pe_ix (xK ixD (K := K)) (pv 2) pe_int (fun _ _ => rfl)) (pa_cons (pv 1) pa_nil)))) pe_non (nomark _))))))), ?_⟩
  refine body_end s0 hd q ?_
  obtain ⟨h1, h2, h3, h4⟩ := hc
  have lk := like_byWays h3
  have hv := lk.valid h1
  have hs' := lk.standOk h4
  have h8 := h1.most
  have hro : RowOk (byWays b ws) r := ⟨h2.1, h2.2.1, by rw [lk.len]; exact h2.2.2⟩
  apply y_drop1
  · walk_at "go"
  apply y_skip (b := !(decide ((2 : Int) ≤ 2) && decide ((2 : Int) ≤ 2)) || !(decide ((b.length : Int) ≤ (ws.map eW).length) && decide (((ws.map eW).length : Int) ≤ b.length)))
  · refine xt_or (xt_not (xt_B (x_call (ds := [.dat (.tuple [eWs ws, eS s]), .dat (.int 2), .dat (.int 2)]) (by walk_at "go") (r_is_long [eWs ws, eS s] 2 2 trivial)))) fun _ => xt_not (xt_B (x_call (ds := [.dat (eWs ws), .dat (.int b.length), .dat (.int b.length)]) ?_ (r_is_long (ws.map eW) b.length b.length trivial)))
    walk_at "go"
  · rw [List.length_map, h3, decide_eq_true (Int.le_refl _), decide_eq_true (Int.le_refl _)]
    rfl
  apply y_skip (b := !(ws.all fun _ => true) || !true)
  · refine xt_or (xt_not (xt_B ?_)) fun _ => xt_not (xt_B ?_)
    · refine x_cb (xa_cons ?_ xa_nil) (r_all _ _)
      apply x_lcM ws (fun v => RD.dat (eW v)) (fun _ => .bool true)
      · apply xi_tupE
        walk_at "go"
      · walk_at "go"
      · intro v hv
        walk_at "go"
      · omega
    · walk_at "go"
  · rw [show (ws.all fun _ => true) = true from List.all_eq_true.mpr fun _ _ => rfl]
    rfl
  apply y_ret
  · refine x_op (R := dIs true) (a := .dat (eSO (endOf (byWays b ws) s r))) (b := .dat .none) ?_ ?_ (dIs_SO true _)
    · walk_at "go"
    · walk_at "go"
  · rfl
def F_next_pins : List RD → RD → Prop := fun aa zz => ∃ (b : Board) (r : List Nat), (Valid b ∧ RowOk b r ∧ b.length ≤ 5) ∧ aa = [.dat (eB b), .dat (eR r)] ∧ zz = .dat (eR (nextPins b r))
theorem r_next_pins (b : Board) (r : List Nat) (hc : Valid b ∧ RowOk b r ∧ b.length ≤ 5) : F_next_pins [.dat (eB b), .dat (eR r)] (.dat (eR (nextPins b r))) := ⟨b, r, hc, rfl, rfl⟩
abbrev sp_next_pins (K : PySem.W.Frag) : Sp := spD K F_next_pins
local macro_rules | `(tactic| walk_at "g1") => `(tactic| ((with_reducible apply r_next_pins); (try (walk_at "sd"))))
theorem sc_next_pins : FnScope ["board", "row", "some", "ways", "stand", "end"] ["board", "row"] (defScope s_next_pins) := ⟨rfl, rfl, rfl, by decide +kernel, rfl, by decide +kernel, by decide +kernel⟩
-- slots: 0 board, 1 row, 2 some, 3 ways, 4 stand, 5 end
theorem df_next_pins (T : Tx K mg) (df_beat_by : Df P w K mg base "beat_by" 3 ["board", "stand"] (sp_beat_by K)) (df_by_ways : Df P w K mg base "by_ways" 1 ["board", "ways"] (sp_by_ways K)) (df_need_seen : Df P w K mg base "need_seen" 6 ["board", "row"] (sp_need_seen K)) (df_stories : Df P w K mg base "stories" 5 ["board", "row"] (sp_stories K)) : Df P w K mg base "next_pins" 7 ["board", "row"] (sp_next_pins K) := by
  obtain ⟨f, fd, hm, F⟩ := T.d_next_pins
  refine ⟨f, fd, hm, F.kp, F.binds (ps := ["board", "row"]) (fun _ _ _ _ _ _ us hl => match us, hl with | [_, _], _ => rfl), F.ok sc_next_pins (fun vs H Q E h => ?_) (fun cdv A outer s H vs Q E hr h => ?_)⟩
  · obtain ⟨H0, aa, zz, s0, hd, ⟨b, r, hc, rfl, rfl⟩, q⟩ := h
    exact hd.length
  obtain ⟨H0, aa, zz, s0, hd, ⟨b, r, hc, rfl, rfl⟩, q⟩ := h
  refine ⟨_, (pss_cons (ps_expr (pe_df df_need_seen (hr.mono (by decide)) (by rfl) (pa_cons (pv 0) (pa_cons (pv 1) pa_nil)))) (pss_cons (ps_setLc (i := 2) (own := [("ways", 3), ("stand", 4), ("end", 5)]) (g := (gTup K 3 (gCons (gName 3) (gCons (gName 4) (gCons (gName 5) gNil))))) (tt := tYes) rfl sc_next_pins.nd rfl rfl (sw_true rfl rfl rfl (by decide +kernel)) (kSeq (pe_df df_stories (hr.mono (by decide)) (by rfl) (pa_cons (pv 0) (pa_cons (pv 1) pa_nil))) (K := K)) (blkOk_by (show blkC ["board", "row", "some", "ways", "stand", "end"] (defScope s_next_pins) _ _ = true by decide +kernel)) (fun _ _ _ _ _ => (kTup (K := K) 3 rfl (pgs_cons (pg_name (i := 3) sc_next_pins.nd rfl (by first | exact Or.inl rfl | exact Or.inr rfl)) (pgs_cons (pg_name (i := 4) sc_next_pins.nd rfl (by first | exact Or.inl rfl | exact Or.inr rfl)) (pgs_cons (pg_name (i := 5) sc_next_pins.nd rfl (by first | exact Or.inl rfl | exact Or.inr rfl)) pgs_nil))))) (fun _ _ _ _ _ => pts_nil) (fun _ _ _ _ _ => (pe_ix (xK ixD (K := K)) (pe_df df_beat_by (hr.mono (by decide)) (by rfl) (pa_cons (pe_df df_by_ways (hr.mono (by decide)) (by rfl) (pa_cons (pv 0) (pa_cons (pv 3) pa_nil))) (pa_cons (pv 5) pa_nil))) pe_int (fun _ _ => rfl)))) (pss_one (ps_ret (pe_callTy (cK cD_tuple (K := K)) (by rfl) T.z_tuple (by decide +kernel) (pa_cons (pe_callB (cK (cD_sorted rfl) (K := K) (R' := fSorted w)) (by rfl) T.z_sorted (by decide +kernel) (pa_cons (pe_callTy (cK (cD_set rfl) (K := K) (R' := fSet P w)) (by rfl) T.z_set (by decide +kernel) (pa_cons (pv 2) pa_nil)) pa_nil)) pa_nil)))))), ?_⟩
  refine body_end s0 hd q ?_
  obtain ⟨h1, h2, h3⟩ := hc
  have hfew := stories_few b h3 r
  have hin : ∀ t ∈ Wm.stories b r, Valid (byWays b t.1) ∧ StandOk (byWays b t.1) t.2.2 ∧ (byWays b t.1).length = b.length := fun t ht => by
    obtain ⟨e1, e2, e3⟩ := mem_stories.mp ht
    have lk := like_byWays e1
    exact ⟨lk.valid h1, end_ok (lk.valid h1) (mem_allStands.mp e2) e3, lk.len⟩
  apply y_drop1
  · walk_at "go"
  apply y_set1 (r := .dat (.list (((Wm.stories b r).map fun t => (Wm.beat (byWays b t.1) t.2.2).own).map eN)))
  · rw [List.map_map]
    apply x_lcM (Wm.stories b r) (fun t => RD.dat (eT t)) (fun t => eN (Wm.beat (byWays b t.1) t.2.2).own)
    · apply xi_listE
      walk_at "go"
    · walk_at "go"
    · intro t ht
      obtain ⟨q1, q2, q3⟩ := hin t ht
      have h8 := h1.most
      refine x_op (R := dIx) (a := .dat (eS (Wm.beat (byWays b t.1) t.2.2))) (b := .dat (.int 0)) ?_ ?_ ⟨_, rfl, rfl⟩ <;> walk_at "go"
    · omega
  have hlt : ∀ x ∈ (Wm.stories b r).map fun t => (Wm.beat (byWays b t.1) t.2.2).own, x < 8 := fun x hx => by
    obtain ⟨t, ht, rfl⟩ := List.mem_map.mp hx
    obtain ⟨q1, q2, q3⟩ := hin t ht
    have := (beat_ok q1 q2).own
    omega
  have hset : fSet P w [.dat (.list (((Wm.stories b r).map fun t => (Wm.beat (byWays b t.1) t.2.2).own).map eN))] (setN w ((Wm.stories b r).map fun t => (Wm.beat (byWays b t.1) t.2.2).own)) := set_nats _ (by rw [List.length_map]; omega)
  have hsort : fSorted w [setN w ((Wm.stories b r).map fun t => (Wm.beat (byWays b t.1) t.2.2).own)] (.dat (.list ((nextPins b r).map eN))) := by
    refine sorted_nats _ _ 8 (by decide) hlt ?_ ?_
    · unfold nextPins
      exact List.Pairwise.filter _ List.pairwise_lt_range
    · intro x
      unfold nextPins
      rw [List.mem_filter, List.mem_range, List.any_eq_true, List.mem_map]
      constructor
      · rintro ⟨_, t, ht, e⟩
        exact ⟨t, ht, of_decide_eq_true e⟩
      · rintro ⟨t, ht, rfl⟩
        obtain ⟨q1, q2, q3⟩ := hin t ht
        have := (beat_ok q1 q2).own
        exact ⟨by omega, t, ht, decide_eq_true rfl⟩
  generalize hgs : (Wm.stories b r).map (fun t => (Wm.beat (byWays b t.1) t.2.2).own) = gs at *
  apply y_ret
  · refine x_cb (R := fTuple) (xa_cons (r := .dat (.list ((nextPins b r).map eN))) (x_cb (R := fSorted w) (xa_cons (r := setN w gs) (x_cb (R := fSet P w) (xa_cons (r := .dat (.list (gs.map eN))) ?_ xa_nil) hset) xa_nil) hsort) xa_nil) rfl
    walk_at "go"
  · rfl
end
end Wk
end
section
set_option Elab.async false
set_option linter.all false
set_option autoImplicit false
set_option maxRecDepth 100000
set_option maxHeartbeats 4000000
namespace Wk
open PySem L2 Wp Wm
/-! ### the words of the evaluation -/
local macro_rules | `(tactic| walk_at "sd") => `(tactic| first
  | assumption
  | exact trivial
  | exact rfl
  | omega
  | (refine ⟨?_, ?_⟩ <;> (walk_at "sd")))
local macro_rules | `(tactic| walk_at "g1") => `(tactic| first
  | ((with_reducible apply ev_var); exact rfl)
  | with_reducible exact ev_int
  | with_reducible exact ev_str
  | with_reducible exact ev_bl
  | with_reducible exact ev_non
  | with_reducible exact ev_raw
  | exact ev_int
  | with_reducible exact xa_nil
  | with_reducible exact xd_nil
  | with_reducible exact eo_none
  | with_reducible apply x_op
  | with_reducible apply x_cb
  | with_reducible apply x_call
  | with_reducible apply x_tup
  | with_reducible apply x_lst
  | with_reducible apply xa_cons
  | with_reducible apply xd_cons
  | with_reducible apply xo_some
  | with_reducible apply x_un
  | with_reducible apply x_sl
  | with_reducible apply x_if
  | with_reducible apply x_and
  | with_reducible apply x_or
  | with_reducible apply x_not
  | with_reducible apply x_chain
  | with_reducible apply xt_test
  | with_reducible apply xt_B
  | with_reducible apply xt_not
  | with_reducible apply xt_and
  | with_reducible apply xt_or
  | ((with_reducible refine fun _ => ?_); first | with_reducible show EvG _ _ _ _ _ _ _ | with_reducible show EtG _ _ _ _ _ _ _)
  | ((with_reducible refine fun _ _ => ?_); first | with_reducible show TgW _ _ _ _ _ _ | with_reducible show EvG _ _ _ _ _ _ _ | with_reducible show EtG _ _ _ _ _ _ _)
  | exact rfl
  | assumption
  | exact ⟨_, rfl, rfl⟩
  | exact ⟨_, by assumption, rfl⟩
  | exact ⟨trivial, rfl⟩
  | exact Or.inl rfl
  | exact ⟨rfl, rfl, rfl⟩
  | exact ⟨by decide, rfl⟩
  | exact ⟨by assumption, rfl⟩
  | exact ⟨rfl, by assumption⟩
  | exact ⟨rfl, by decide⟩
  | (show List.length _ ≤ 1000; exact Nat.le_of_ble_eq_true rfl)
  | fail "open")
local macro_rules | `(tactic| walk_at "go") => `(tactic| repeat' (walk_at "g1"))
local macro_rules | `(tactic| walk_at "g1") => `(tactic| ((with_reducible apply ix_pin); (try (walk_at "sd"))))
local macro_rules | `(tactic| walk_at "g1") => `(tactic| first
  | with_reducible exact tw_name
  | with_reducible apply tw_tup
  | with_reducible exact tws_nil
  | with_reducible apply tws_cons
  | with_reducible exact tg_name
  | with_reducible apply tg_tup
  | with_reducible exact tgs_nil
  | with_reducible apply tgs_cons
  | with_reducible exact r_all _ _
  | with_reducible exact r_sum _ _
  | with_reducible exact r_len _
  | with_reducible exact r_lenT _)
local macro_rules | `(tactic| walk_at "g1") => `(tactic| first
  | with_reducible exact dEq_wayL _
  | with_reducible exact dEq_wordA _
  | with_reducible exact dEq_wordB _
  | with_reducible exact dEq_int _ _
  | with_reducible exact dNe_int _ _
  | with_reducible exact dEq_bool _ _
  | with_reducible exact r_all2 _ _ _
  | with_reducible exact dIn_nats _ _
  | with_reducible exact dNotIn_nats _ _)
local macro_rules | `(tactic| walk_at "g1") => `(tactic| first
  | ((with_reducible apply dMod_at); (walk_at "sd"))
  | ((with_reducible apply dDiv_at); (walk_at "sd"))
  | ((with_reducible apply dMul_at); (walk_at "sd")))

section
variable {P : Program} {w : World} {K : PySem.W.Frag} {mg : Str → Option Value} {base : Heap}
local macro_rules | `(tactic| walk_at "g1") => `(tactic| ((with_reducible apply r_is_whole); (try (walk_at "sd"))))
local macro_rules | `(tactic| walk_at "g1") => `(tactic| ((with_reducible apply r_is_within); (try (walk_at "sd"))))
local macro_rules | `(tactic| walk_at "g1") => `(tactic| ((with_reducible apply r_is_long); (try (walk_at "sd"))))
local macro_rules | `(tactic| walk_at "g1") => `(tactic| ((with_reducible apply r_rises); (try (walk_at "sd"))))
local macro_rules | `(tactic| walk_at "g1") => `(tactic| ((with_reducible apply r_is_way); (try (walk_at "sd"))))
local macro_rules | `(tactic| walk_at "g1") => `(tactic| ((with_reducible apply r_other_way); (try (walk_at "sd"))))
local macro_rules | `(tactic| walk_at "g1") => `(tactic| ((with_reducible apply r_is_pin_by); (try (walk_at "sd"))))
local macro_rules | `(tactic| walk_at "g1") => `(tactic| ((with_reducible apply r_cross); (try (walk_at "sd"))))
local macro_rules | `(tactic| walk_at "g1") => `(tactic| ((with_reducible apply r_between); (try (walk_at "sd"))))
local macro_rules | `(tactic| walk_at "g1") => `(tactic| ((with_reducible apply r_pairs_of); (try (walk_at "sd"))))
local macro_rules | `(tactic| walk_at "g1") => `(tactic| ((with_reducible apply r_is_board); (try (walk_at "sd"))))
local macro_rules | `(tactic| walk_at "g1") => `(tactic| ((with_reducible apply r_need_board); (try (walk_at "sd"))))
local macro_rules | `(tactic| walk_at "g1") => `(tactic| ((with_reducible apply r_need_pins); (try (walk_at "sd"))))
local macro_rules | `(tactic| walk_at "g1") => `(tactic| ((with_reducible apply r_with_ways_by); (try (walk_at "sd"))))
local macro_rules | `(tactic| walk_at "g1") => `(tactic| ((with_reducible apply r_with_ways); (try (walk_at "sd"))))
local macro_rules | `(tactic| walk_at "g1") => `(tactic| ((with_reducible apply r_mirrored); (try (walk_at "sd"))))
local macro_rules | `(tactic| walk_at "g1") => `(tactic| ((with_reducible apply r_other_word); (try (walk_at "sd"))))
local macro_rules | `(tactic| walk_at "g1") => `(tactic| ((with_reducible apply r_turned_about); (try (walk_at "sd"))))
local macro_rules | `(tactic| walk_at "g1") => `(tactic| ((with_reducible apply r_is_stand_by); (try (walk_at "sd"))))
local macro_rules | `(tactic| walk_at "g1") => `(tactic| ((with_reducible apply r_need_stand); (try (walk_at "sd"))))
local macro_rules | `(tactic| walk_at "g1") => `(tactic| ((with_reducible apply r_look_of); (try (walk_at "sd"))))
local macro_rules | `(tactic| walk_at "g1") => `(tactic| ((with_reducible apply r_met_first); (try (walk_at "sd"))))
local macro_rules | `(tactic| walk_at "g1") => `(tactic| ((with_reducible apply r_beside); (try (walk_at "sd"))))
local macro_rules | `(tactic| walk_at "g1") => `(tactic| ((with_reducible apply r_beat_by); (try (walk_at "sd"))))
local macro_rules | `(tactic| walk_at "g1") => `(tactic| ((with_reducible apply r_beat); (try (walk_at "sd"))))
local macro_rules | `(tactic| walk_at "g1") => `(tactic| ((with_reducible apply r_all_stands); (try (walk_at "sd"))))
local macro_rules | `(tactic| walk_at "g1") => `(tactic| ((with_reducible apply r_need_row); (try (walk_at "sd"))))
local macro_rules | `(tactic| walk_at "g1") => `(tactic| ((with_reducible apply r_need_seen); (try (walk_at "sd"))))
local macro_rules | `(tactic| walk_at "g1") => `(tactic| ((with_reducible apply r_by_ways); (try (walk_at "sd"))))
local macro_rules | `(tactic| walk_at "g1") => `(tactic| ((with_reducible apply r_all_ways); (try (walk_at "sd"))))
local macro_rules | `(tactic| walk_at "g1") => `(tactic| ((with_reducible apply r_end_of); (try (walk_at "sd"))))
local macro_rules | `(tactic| walk_at "g1") => `(tactic| ((with_reducible apply r_stories); (try (walk_at "sd"))))
local macro_rules | `(tactic| walk_at "g1") => `(tactic| ((with_reducible apply r_many_stories); (try (walk_at "sd"))))
local macro_rules | `(tactic| walk_at "g1") => `(tactic| ((with_reducible apply r_some_story); (try (walk_at "sd"))))
local macro_rules | `(tactic| walk_at "g1") => `(tactic| ((with_reducible apply r_is_story); (try (walk_at "sd"))))
local macro_rules | `(tactic| walk_at "g1") => `(tactic| ((with_reducible apply r_next_pins); (try (walk_at "sd"))))
def wAt (ws : List Way) (i : Nat) : Way := ws.getD i .left
theorem wAt_get {ws : List Way} {i : Nat} (h : i < ws.length) : ws[i]? = some (wAt ws i) := by
  unfold wAt
  rw [List.getD_eq_getElem?_getD, List.getElem?_eq_getElem h]
  rfl
theorem sureAt_eq (t : Story) (ts : List Story) (i : Nat) (h : ∀ u ∈ t :: ts, i < u.1.length) : sureAt (t :: ts) i = if decide ((kinds ((t :: ts).map fun u => wAt u.1 i) : Int) = 1) = true then some (wAt t.1 i) else none := by
  rw [List.map_cons, kinds_one, List.all_map]
  unfold sureAt
  simp only
  rw [wAt_get (h t List.mem_cons_self)]
  have e : (ts.all fun u => decide (u.1[i]? = some (wAt t.1 i))) = ts.all ((fun v => decide (v = wAt t.1 i)) ∘ fun u => wAt u.1 i) := by
    rw [Bool.eq_iff_iff, List.all_eq_true, List.all_eq_true]
    constructor
    · intro g u hu
      have := of_decide_eq_true (g u hu)
      rw [wAt_get (h u (List.mem_cons_of_mem _ hu))] at this
      exact decide_eq_true (Option.some.inj this)
    · intro g u hu
      rw [wAt_get (h u (List.mem_cons_of_mem _ hu))]
      exact decide_eq_true (congrArg some (of_decide_eq_true (g u hu)))
  rw [e]
def F_sure_ways : List RD → RD → Prop := fun aa zz => ∃ (b : Board) (r : List Nat), (Valid b ∧ RowOk b r ∧ b.length ≤ 5) ∧ aa = [.dat (eB b), .dat (eR r)] ∧ zz = .dat (eSure (sure b r))
theorem r_sure_ways (b : Board) (r : List Nat) (hc : Valid b ∧ RowOk b r ∧ b.length ≤ 5) : F_sure_ways [.dat (eB b), .dat (eR r)] (.dat (eSure (sure b r))) := ⟨b, r, hc, rfl, rfl⟩
abbrev sp_sure_ways (K : PySem.W.Frag) : Sp := spD K F_sure_ways
local macro_rules | `(tactic| walk_at "g1") => `(tactic| ((with_reducible apply r_sure_ways); (try (walk_at "sd"))))
theorem sc_sure_ways : FnScope ["board", "row", "some", "found", "at", "its", "ways", "stand", "end"] ["board", "row"] (defScope s_sure_ways) := ⟨rfl, rfl, rfl, by decide +kernel, rfl, by decide +kernel, by decide +kernel⟩
-- slots: 0 board, 1 row, 2 some, 3 found, 4 at, 5 its, 6 ways, 7 stand, 8 end
theorem df_sure_ways (T : Tx K mg) (df_need_seen : Df P w K mg base "need_seen" 6 ["board", "row"] (sp_need_seen K)) (df_stories : Df P w K mg base "stories" 5 ["board", "row"] (sp_stories K)) : Df P w K mg base "sure_ways" 7 ["board", "row"] (sp_sure_ways K) := by
  obtain ⟨f, fd, hm, F⟩ := T.d_sure_ways
  refine ⟨f, fd, hm, F.kp, F.binds (ps := ["board", "row"]) (fun _ _ _ _ _ _ us hl => match us, hl with | [_, _], _ => rfl), F.ok sc_sure_ways (fun vs H Q E h => ?_) (fun cdv A outer s H vs Q E hr h => ?_)⟩
  · obtain ⟨H0, aa, zz, s0, hd, ⟨b, r, hc, rfl, rfl⟩, q⟩ := h
    exact hd.length
  obtain ⟨H0, aa, zz, s0, hd, ⟨b, r, hc, rfl, rfl⟩, q⟩ := h
  refine ⟨_, (pss_cons (ps_expr (pe_df df_need_seen (hr.mono (by decide)) (by rfl) (pa_cons (pv 0) (pa_cons (pv 1) pa_nil)))) (pss_cons (ps_setLc (i := 2) (own := [("ways", 6), ("stand", 7), ("end", 8)]) (g := (gTup K 3 (gCons (gName 6) (gCons (gName 7) (gCons (gName 8) gNil))))) (tt := tYes) rfl sc_sure_ways.nd rfl rfl (sw_true rfl rfl rfl (by decide +kernel)) (kSeq (pe_df df_stories (hr.mono (by decide)) (by rfl) (pa_cons (pv 0) (pa_cons (pv 1) pa_nil))) (K := K)) (blkOk_by (show blkC ["board", "row", "some", "found", "at", "its", "ways", "stand", "end"] (defScope s_sure_ways) _ _ = true by decide +kernel)) (fun _ _ _ _ _ => (kTup (K := K) 3 rfl (pgs_cons (pg_name (i := 6) sc_sure_ways.nd rfl (by first | exact Or.inl rfl | exact Or.inr rfl)) (pgs_cons (pg_name (i := 7) sc_sure_ways.nd rfl (by first | exact Or.inl rfl | exact Or.inr rfl)) (pgs_cons (pg_name (i := 8) sc_sure_ways.nd rfl (by first | exact Or.inl rfl | exact Or.inr rfl)) pgs_nil))))) (fun _ _ _ _ _ => pts_nil) (fun _ _ _ _ _ => (pv 6))) (pss_cons (ps_if (pt_cmpR (oK (oD_eq hr.units) (K := K)) (pv 2) (pe_lst pa_nil) (nomark _)) (pss_one (ps_ret pe_non)) pss_nil) (pss_cons (ps_asg (pe_lst pa_nil) (pg_name (i := 3) sc_sure_ways.nd rfl (by first | exact Or.inl rfl | exact Or.inr rfl))) (pss_cons (ps_for PassesOwn.never rfl (pi_range1 (by rfl) T.z_range (pa_cons (pe_callB (cK cD_lenA (K := K) (R' := fLenA P w)) (by rfl) T.z_len (by decide +kernel) (pa_cons (pv 0) pa_nil)) pa_nil)) (pg_name (i := 4) sc_sure_ways.nd rfl (by first | exact Or.inl rfl | exact Or.inr rfl)) (pss_cons (ps_asg (pe_callTy (cK (cD_set rfl) (K := K) (R' := fSet P w)) (by rfl) T.z_set (by decide +kernel) (pa_cons (pe_lc (own := [("ways", 6)]) (g := (gName 6)) (tt := tYes) rfl sc_sure_ways.nd (kSeq (pv 2) (K := K)) (blkOk_by (show blkC ["board", "row", "some", "found", "at", "its", "ways", "stand", "end"] (defScope s_sure_ways) _ _ = true by decide +kernel)) (fun _ _ _ _ _ => (pg_name (i := 6) sc_sure_ways.nd rfl (by first | exact Or.inl rfl | exact Or.inr rfl))) (fun _ _ _ _ _ => pts_nil) (fun _ _ _ _ _ => (pe_ix (xK ixD (K := K)) (pv 6) (pv 4) (fun _ _ => rfl)))) pa_nil)) (pg_name (i := 5) sc_sure_ways.nd rfl (by first | exact Or.inl rfl | exact Or.inr rfl))) (pss_one (ps_expr (pe_bm PySem.F.plainAttrs_list PySem.F.slot_list_append PySem.F.type_list_append mt_append (pv 3) (pa_cons (pe_ifExp (pt_cmpR (oK (oD_eq hr.units) (K := K)) (pe_callB (cK cD_lenA (K := K) (R' := fLenA P w)) (by rfl) T.z_len (by decide +kernel) (pa_cons (pv 5) pa_nil)) pe_int (nomark _)) (pe_ix (xK ixD (K := K)) (pe_ix (xK ixD (K := K)) (pv 2) pe_int (fun _ _ => rfl)) (pv 4) (fun _ _ => rfl)) pe_non) pa_nil)))))) (pss_one (ps_ret (pe_callTy (cK cD_tuple (K := K)) (by rfl) T.z_tuple (by decide +kernel) (pa_cons (pv 3) pa_nil))))))))), ?_⟩
  refine body_end s0 hd q ?_
  obtain ⟨h1, h2, h3⟩ := hc
  have hfew := stories_few b h3 r
  have hall : ∀ t ∈ Wm.stories b r, t.1.length = b.length := fun t ht => (mem_stories.mp ht).1
  apply y_drop1
  · walk_at "go"
  apply y_set1 (r := .dat (.list (((Wm.stories b r).map fun t => t.1).map eWs)))
  · rw [List.map_map]
    apply x_lcM (Wm.stories b r) (fun t => RD.dat (eT t)) (fun t => eWs t.1)
    · apply xi_listE
      walk_at "go"
    · walk_at "go"
    · intro t ht
      walk_at "go"
    · omega
  have hsure : sure b r = match Wm.stories b r with | [] => none | t :: ts => some ((List.range b.length).map (sureAt (t :: ts))) := rfl
  cases hs : Wm.stories b r with
  | nil =>
    rw [hs] at hsure
    rw [hsure]
    apply y_take (b := true)
    · refine xt_test (x_op (R := dEq false) (a := .dat (.list (([] : List (List Way)).map eWs))) (b := .dat (.list [])) ?_ ?_ (dEq_nil 1 ok_Ws (by decide) [])) <;> walk_at "go"
    · rfl
    apply y_ret
    · walk_at "go"
    · rfl
  | cons t ts =>
    rw [hs] at hsure hfew hall
    rw [hsure]
    apply y_skip (b := false)
    · refine xt_test (x_op (R := dEq false) (a := .dat (.list (((t :: ts).map fun t => t.1).map eWs))) (b := .dat (.list [])) ?_ ?_ (dEq_nil 1 ok_Ws (by decide) _)) <;> walk_at "go"
    · rfl
    refine sv_newLF (ds := []) (by with_reducible exact xd_nil) (by decide) fun p => ?_
    apply y_for (xs := List.range b.length) (enc := fun i => RD.dat (eN i)) (fun i G' M' => M' = [.lst (((List.range i).map (sureAt (t :: ts))).map eWO)] ∧ ∃ x y z u v, G' = [some (.dat (eB b)), some (.dat (eR r)), some (.dat (.list (((t :: ts).map fun t => t.1).map eWs))), some (.raw (.ref p)), x, y, z, u, v])
    · apply xi_rngN
      · walk_at "go"
      · omega
    · exact ⟨rfl, none, none, none, none, none, rfl⟩
    · rintro i x hx G' M' ⟨rfl, g1, g2, g3, g4, g5, rfl⟩
      obtain ⟨rfl, hi⟩ := range_at hx
      have hix : ∀ u ∈ t :: ts, x < u.1.length := fun u hu => by rw [hall u hu]; exact hi
      apply svt
      · walk_at "go"
      have hset : fSet P w [.dat (.list (((t :: ts).map fun u => wAt u.1 x).map eW))] (setW P w ((t :: ts).map fun u => wAt u.1 x)) := set_ways _ (by rw [List.length_map]; omega)
      have hlen : fLenA P w [setW P w ((t :: ts).map fun u => wAt u.1 x)] (.dat (.int (kinds ((t :: ts).map fun u => wAt u.1 x) : Nat))) := len_ways _ (by rw [List.length_map]; omega)
      have hsa := sureAt_eq t ts x hix
      have hat : ∀ u ∈ t :: ts, dIx (.dat (eWs u.1)) (.dat (eN x)) (.dat (eW (wAt u.1 x))) := fun u hu => ⟨_, at_map (wAt_get (hix u hu)), rfl⟩
      apply y_set1 (r := setW P w ((t :: ts).map fun u => wAt u.1 x))
      · refine x_cb (R := fSet P w) (xa_cons (r := .dat (.list (((t :: ts).map fun u => wAt u.1 x).map eW))) ?_ xa_nil) hset
        refine ev_is (r := .dat (.list ((t :: ts).map fun u => eW (wAt u.1 x)))) ?_ (by rw [List.map_map]; rfl)
        apply x_lcM (t :: ts) (fun u => RD.dat (eWs u.1)) (fun u => eW (wAt u.1 x))
        · rw [show ((t :: ts).map fun u => RD.dat (eWs u.1)) = ((t :: ts).map fun t => t.1).map (fun z => RD.dat (eWs z)) by rw [List.map_map]; rfl]
          apply xi_listE
          walk_at "go"
        · walk_at "go"
        · intro u hu
          refine x_op (R := dIx) (a := .dat (eWs u.1)) (b := .dat (eN x)) ?_ ?_ (hat u hu) <;> walk_at "go"
        · omega
      apply y_app (j := 0) (p := p) (d := eWO (sureAt (t :: ts) x))
      · walk_at "go"
      · rw [hsa]
        refine ev_is (r := .dat (if decide ((kinds ((t :: ts).map fun u => wAt u.1 x) : Int) = 1) = true then eW (wAt t.1 x) else .none)) ?_ ?_
        · refine x_if (xt_test (x_op (R := dEq false) (a := .dat (.int (kinds ((t :: ts).map fun u => wAt u.1 x) : Nat))) (b := .dat (.int 1)) (x_cb (R := fLenA P w) (xa_cons (r := setW P w ((t :: ts).map fun u => wAt u.1 x)) ?_ xa_nil) hlen) ?_ (dEq_int _ _))) (fun _ => ?_) (fun _ => ?_)
          · walk_at "go"
          · walk_at "go"
          · refine x_op (R := dIx) (a := .dat (eWs t.1)) (b := .dat (eN x)) (x_op (R := dIx) (a := .dat (.list (((t :: ts).map fun t => t.1).map eWs))) (b := .dat (.int 0)) ?_ ?_ ⟨_, at_map (xs := (t :: ts).map fun t => t.1) (i := 0) rfl, rfl⟩) ?_ (hat t List.mem_cons_self) <;> walk_at "go"
          · walk_at "go"
        · cases decide ((kinds ((t :: ts).map fun u => wAt u.1 x) : Int) = 1) <;> rfl
      · rfl
      · rfl
      · rw [List.length_map, List.length_map, List.length_range]
        unfold big
        omega
      · refine ⟨congrArg (fun z => [Mu.lst z]) ?_, _, _, _, _, _, rfl⟩
        rw [List.range_succ, List.map_append, List.map_append]
        rfl
    · rintro G' M' ⟨rfl, g1, g2, g3, g4, g5, rfl⟩
      rw [List.length_range]
      refine ⟨[], _, rfl, rfl, ?_⟩
      apply y_ret
      · walk_at "go"
      · rfl
end
end Wk
end
section
set_option Elab.async false
set_option linter.all false
set_option autoImplicit false
set_option maxRecDepth 100000
set_option maxHeartbeats 4000000
namespace Wk
open PySem L2 Wp Wm
/-! ### the words of the evaluation -/
local macro_rules | `(tactic| walk_at "sd") => `(tactic| first
  | assumption
  | exact trivial
  | exact rfl
  | omega
  | (refine ⟨?_, ?_⟩ <;> (walk_at "sd")))
local macro_rules | `(tactic| walk_at "g1") => `(tactic| first
  | ((with_reducible apply ev_var); exact rfl)
  | with_reducible exact ev_int
  | with_reducible exact ev_str
  | with_reducible exact ev_bl
  | with_reducible exact ev_non
  | with_reducible exact ev_raw
  | exact ev_int
  | with_reducible exact xa_nil
  | with_reducible exact xd_nil
  | with_reducible exact eo_none
  | with_reducible apply x_op
  | with_reducible apply x_cb
  | with_reducible apply x_call
  | with_reducible apply x_tup
  | with_reducible apply x_lst
  | with_reducible apply xa_cons
  | with_reducible apply xd_cons
  | with_reducible apply xo_some
  | with_reducible apply x_un
  | with_reducible apply x_sl
  | with_reducible apply x_if
  | with_reducible apply x_and
  | with_reducible apply x_or
  | with_reducible apply x_not
  | with_reducible apply x_chain
  | with_reducible apply xt_test
  | with_reducible apply xt_B
  | with_reducible apply xt_not
  | with_reducible apply xt_and
  | with_reducible apply xt_or
  | ((with_reducible refine fun _ => ?_); first | with_reducible show EvG _ _ _ _ _ _ _ | with_reducible show EtG _ _ _ _ _ _ _)
  | ((with_reducible refine fun _ _ => ?_); first | with_reducible show TgW _ _ _ _ _ _ | with_reducible show EvG _ _ _ _ _ _ _ | with_reducible show EtG _ _ _ _ _ _ _)
  | exact rfl
  | assumption
  | exact ⟨_, rfl, rfl⟩
  | exact ⟨_, by assumption, rfl⟩
  | exact ⟨trivial, rfl⟩
  | exact Or.inl rfl
  | exact ⟨rfl, rfl, rfl⟩
  | exact ⟨by decide, rfl⟩
  | exact ⟨by assumption, rfl⟩
  | exact ⟨rfl, by assumption⟩
  | exact ⟨rfl, by decide⟩
  | (show List.length _ ≤ 1000; exact Nat.le_of_ble_eq_true rfl)
  | fail "open")
local macro_rules | `(tactic| walk_at "go") => `(tactic| repeat' (walk_at "g1"))
local macro_rules | `(tactic| walk_at "g1") => `(tactic| ((with_reducible apply ix_pin); (try (walk_at "sd"))))
local macro_rules | `(tactic| walk_at "g1") => `(tactic| first
  | with_reducible exact tw_name
  | with_reducible apply tw_tup
  | with_reducible exact tws_nil
  | with_reducible apply tws_cons
  | with_reducible exact tg_name
  | with_reducible apply tg_tup
  | with_reducible exact tgs_nil
  | with_reducible apply tgs_cons
  | with_reducible exact r_all _ _
  | with_reducible exact r_sum _ _
  | with_reducible exact r_len _
  | with_reducible exact r_lenT _)
local macro_rules | `(tactic| walk_at "g1") => `(tactic| first
  | with_reducible exact dEq_wayL _
  | with_reducible exact dEq_wordA _
  | with_reducible exact dEq_wordB _
  | with_reducible exact dEq_int _ _
  | with_reducible exact dNe_int _ _
  | with_reducible exact dEq_bool _ _
  | with_reducible exact r_all2 _ _ _
  | with_reducible exact dIn_nats _ _
  | with_reducible exact dNotIn_nats _ _)
local macro_rules | `(tactic| walk_at "g1") => `(tactic| first
  | ((with_reducible apply dMod_at); (walk_at "sd"))
  | ((with_reducible apply dDiv_at); (walk_at "sd"))
  | ((with_reducible apply dMul_at); (walk_at "sd")))

section
variable {P : Program} {w : World} {K : PySem.W.Frag} {mg : Str → Option Value} {base : Heap}
local macro_rules | `(tactic| walk_at "g1") => `(tactic| ((with_reducible apply r_is_whole); (try (walk_at "sd"))))
local macro_rules | `(tactic| walk_at "g1") => `(tactic| ((with_reducible apply r_is_within); (try (walk_at "sd"))))
local macro_rules | `(tactic| walk_at "g1") => `(tactic| ((with_reducible apply r_is_long); (try (walk_at "sd"))))
local macro_rules | `(tactic| walk_at "g1") => `(tactic| ((with_reducible apply r_rises); (try (walk_at "sd"))))
local macro_rules | `(tactic| walk_at "g1") => `(tactic| ((with_reducible apply r_is_way); (try (walk_at "sd"))))
local macro_rules | `(tactic| walk_at "g1") => `(tactic| ((with_reducible apply r_other_way); (try (walk_at "sd"))))
local macro_rules | `(tactic| walk_at "g1") => `(tactic| ((with_reducible apply r_is_pin_by); (try (walk_at "sd"))))
local macro_rules | `(tactic| walk_at "g1") => `(tactic| ((with_reducible apply r_cross); (try (walk_at "sd"))))
local macro_rules | `(tactic| walk_at "g1") => `(tactic| ((with_reducible apply r_between); (try (walk_at "sd"))))
local macro_rules | `(tactic| walk_at "g1") => `(tactic| ((with_reducible apply r_pairs_of); (try (walk_at "sd"))))
local macro_rules | `(tactic| walk_at "g1") => `(tactic| ((with_reducible apply r_is_board); (try (walk_at "sd"))))
local macro_rules | `(tactic| walk_at "g1") => `(tactic| ((with_reducible apply r_need_board); (try (walk_at "sd"))))
local macro_rules | `(tactic| walk_at "g1") => `(tactic| ((with_reducible apply r_need_pins); (try (walk_at "sd"))))
local macro_rules | `(tactic| walk_at "g1") => `(tactic| ((with_reducible apply r_with_ways_by); (try (walk_at "sd"))))
local macro_rules | `(tactic| walk_at "g1") => `(tactic| ((with_reducible apply r_with_ways); (try (walk_at "sd"))))
local macro_rules | `(tactic| walk_at "g1") => `(tactic| ((with_reducible apply r_mirrored); (try (walk_at "sd"))))
local macro_rules | `(tactic| walk_at "g1") => `(tactic| ((with_reducible apply r_other_word); (try (walk_at "sd"))))
local macro_rules | `(tactic| walk_at "g1") => `(tactic| ((with_reducible apply r_turned_about); (try (walk_at "sd"))))
local macro_rules | `(tactic| walk_at "g1") => `(tactic| ((with_reducible apply r_is_stand_by); (try (walk_at "sd"))))
local macro_rules | `(tactic| walk_at "g1") => `(tactic| ((with_reducible apply r_need_stand); (try (walk_at "sd"))))
local macro_rules | `(tactic| walk_at "g1") => `(tactic| ((with_reducible apply r_look_of); (try (walk_at "sd"))))
local macro_rules | `(tactic| walk_at "g1") => `(tactic| ((with_reducible apply r_met_first); (try (walk_at "sd"))))
local macro_rules | `(tactic| walk_at "g1") => `(tactic| ((with_reducible apply r_beside); (try (walk_at "sd"))))
local macro_rules | `(tactic| walk_at "g1") => `(tactic| ((with_reducible apply r_beat_by); (try (walk_at "sd"))))
local macro_rules | `(tactic| walk_at "g1") => `(tactic| ((with_reducible apply r_beat); (try (walk_at "sd"))))
local macro_rules | `(tactic| walk_at "g1") => `(tactic| ((with_reducible apply r_all_stands); (try (walk_at "sd"))))
local macro_rules | `(tactic| walk_at "g1") => `(tactic| ((with_reducible apply r_need_row); (try (walk_at "sd"))))
local macro_rules | `(tactic| walk_at "g1") => `(tactic| ((with_reducible apply r_need_seen); (try (walk_at "sd"))))
local macro_rules | `(tactic| walk_at "g1") => `(tactic| ((with_reducible apply r_by_ways); (try (walk_at "sd"))))
local macro_rules | `(tactic| walk_at "g1") => `(tactic| ((with_reducible apply r_all_ways); (try (walk_at "sd"))))
local macro_rules | `(tactic| walk_at "g1") => `(tactic| ((with_reducible apply r_end_of); (try (walk_at "sd"))))
local macro_rules | `(tactic| walk_at "g1") => `(tactic| ((with_reducible apply r_stories); (try (walk_at "sd"))))
local macro_rules | `(tactic| walk_at "g1") => `(tactic| ((with_reducible apply r_many_stories); (try (walk_at "sd"))))
local macro_rules | `(tactic| walk_at "g1") => `(tactic| ((with_reducible apply r_some_story); (try (walk_at "sd"))))
local macro_rules | `(tactic| walk_at "g1") => `(tactic| ((with_reducible apply r_is_story); (try (walk_at "sd"))))
local macro_rules | `(tactic| walk_at "g1") => `(tactic| ((with_reducible apply r_next_pins); (try (walk_at "sd"))))
local macro_rules | `(tactic| walk_at "g1") => `(tactic| ((with_reducible apply r_sure_ways); (try (walk_at "sd"))))
def F__law_cell_at : List RD → RD → Prop := fun aa zz => ∃ (ns : List Int) (k : Nat), (True) ∧ aa = [.sq ns, .dat (eN k)] ∧ zz = .dat (.int (ns.getD k 0))
theorem r__law_cell_at (ns : List Int) (k : Nat) (hc : True) : F__law_cell_at [.sq ns, .dat (eN k)] (.dat (.int (ns.getD k 0))) := ⟨ns, k, hc, rfl, rfl⟩
abbrev sp__law_cell_at (K : PySem.W.Frag) : Sp := spD K F__law_cell_at
local macro_rules | `(tactic| walk_at "g1") => `(tactic| ((with_reducible apply r__law_cell_at); (try (walk_at "sd"))))
theorem sc__law_cell_at : FnScope ["_law_script", "_law_k"] ["_law_script", "_law_k"] (defScope s__law_cell_at) := ⟨rfl, rfl, rfl, by decide +kernel, rfl, by decide +kernel, by decide +kernel⟩
-- slots: 0 _law_script, 1 _law_k
theorem df__law_cell_at (T : Tx K mg) : Df P w K mg base "_law_cell_at" 1 ["_law_script", "_law_k"] (sp__law_cell_at K) := by
  obtain ⟨f, fd, hm, F⟩ := T.d__law_cell_at
  refine ⟨f, fd, hm, F.kp, F.binds (ps := ["_law_script", "_law_k"]) (fun _ _ _ _ _ _ us hl => match us, hl with | [_, _], _ => rfl), F.ok sc__law_cell_at (fun vs H Q E h => ?_) (fun cdv A outer s H vs Q E hr h => ?_)⟩
  · obtain ⟨H0, aa, zz, s0, hd, ⟨ns, k, hc, rfl, rfl⟩, q⟩ := h
    exact hd.length
  obtain ⟨H0, aa, zz, s0, hd, ⟨ns, k, hc, rfl, rfl⟩, q⟩ := h
  refine ⟨_, (pss_cons (ps_if (pt_cmpR (oK oD_lt (K := K)) (pv 1) (pe_callB (cK cD_lenA (K := K) (R' := fLenA P w)) (by rfl) T.z_len (by decide +kernel) (pa_cons (pv 0) pa_nil)) (nomark _)) (pss_one (ps_ret (pe_ix (xK ixD (K := K)) (pv 0) (pv 1) (fun _ _ => rfl)))) pss_nil) (pss_one (ps_ret pe_int))), ?_⟩
  refine body_end s0 hd q ?_
  apply y_guard (b := decide (k < ns.length))
  · refine xt_test (x_op (R := dLt) (a := .dat (eN k)) (b := .dat (.int (ns.length : Nat))) ?_ ?_ ⟨trivial, congrArg (fun z => RD.dat (.bool z)) (decide_eq_decide.mpr Int.ofNat_lt).symm⟩) <;> walk_at "go"
  · intro hb
    have hk := of_decide_eq_true hb
    apply y_ret (r := .dat (.int (ns.getD k 0)))
    · refine x_op (R := dIx) (a := .sq ns) (b := .dat (eN k)) ?_ ?_ ⟨_, ?_, rfl⟩
      · walk_at "go"
      · walk_at "go"
      · refine atI_nat ?_
        rw [List.getD_eq_getElem?_getD, List.getElem?_eq_getElem hk]
        rfl
    · rfl
  · intro hb
    have hk := of_decide_eq_false hb
    have e : ns.getD k 0 = 0 := by
      rw [List.getD_eq_getElem?_getD, List.getElem?_eq_none (by omega)]
      rfl
    rw [e]
    apply y_ret
    · walk_at "go"
    · rfl
def F__law_pen : List RD → List PyData → Prop := fun aa zz => ∃ (cell : Int), (True) ∧ aa = [.dat (.int cell)] ∧ zz = ePen (penOf cell)
theorem r__law_pen (cell : Int) (hc : True) : F__law_pen [.dat (.int cell)] (ePen (penOf cell)) := ⟨cell, hc, rfl, rfl⟩
abbrev sp__law_pen (K : PySem.W.Frag) : Sp := spN K F__law_pen
local macro_rules | `(tactic| walk_at "g1") => `(tactic| ((with_reducible apply r__law_pen); (try (walk_at "sd"))))
theorem sc__law_pen : FnScope ["_law_cell"] ["_law_cell"] (defScope s__law_pen) := ⟨rfl, rfl, rfl, by decide +kernel, rfl, by decide +kernel, by decide +kernel⟩
-- slots: 0 _law_cell
theorem df__law_pen (T : Tx K mg) : Df P w K mg base "_law_pen" 1 ["_law_cell"] (sp__law_pen K) := by
  obtain ⟨f, fd, hm, F⟩ := T.d__law_pen
  refine ⟨f, fd, hm, F.kp, F.binds (ps := ["_law_cell"]) (fun _ _ _ _ _ _ us hl => match us, hl with | [_], _ => rfl), F.ok sc__law_pen (fun vs H Q E h => ?_) (fun cdv A outer s H vs Q E hr h => ?_)⟩
  · obtain ⟨H0, aa, zz, s0, hd, ⟨cell, hc, rfl, rfl⟩, q⟩ := h
    exact hd.length
  obtain ⟨H0, aa, zz, s0, hd, ⟨cell, hc, rfl, rfl⟩, q⟩ := h
  refine ⟨_, (pss_one (ps_ret (pe_lst (pa_cons (pe_callB (cK (cD_max rfl) (K := K)) (by rfl) T.z_max (by decide +kernel) (pa_cons pe_int (pa_cons (pe_op (oK oD_sub (K := K)) (pv 0) (pe_op (oK oD_pow (K := K)) pe_int pe_int)) pa_nil))) (pa_cons (pe_op (oK oD_add (K := K)) (pe_op (oK oD_mod (K := K)) (pv 0) pe_int) pe_int) (pa_cons pe_int pa_nil)))))), ?_⟩
  refine body_endP s0 hd q ?_ (by show _ ≤ 1000000; exact Nat.le_of_ble_eq_true rfl)
  refine xd_cons ?_ (xd_cons ?_ (xd_cons ?_ xd_nil))
  · refine ev_is (r := .dat (.int (if cell - 1000000000000000000 > 0 then cell - 1000000000000000000 else 0))) ?_ rfl
    refine x_cb (R := fMax) (ds := [.dat (.int 0), .dat (.int (cell - 1000000000000000000))]) (xa_cons ?_ (xa_cons (x_op (R := dSub) (a := .dat (.int cell)) (b := .dat (.int 1000000000000000000)) ?_ (x_op (R := dPow) (a := .dat (.int 10)) (b := .dat (.int 18)) ?_ ?_ ⟨⟨by decide, by decide, by decide⟩, rfl⟩) ⟨trivial, rfl⟩) xa_nil)) rfl <;> walk_at "go"
  · refine ev_is (r := .dat (.int (cell % 2147483629 + 1))) ?_ rfl
    walk_at "go"
  · refine ev_is (r := .dat (.int 0)) ?_ rfl
    walk_at "go"
def F__law_draw : List RD → List PyData → RD → List PyData → Prop := fun aa ss zz s2 => ∃ (pen : Pen) (many : Nat), (PenOk pen ∧ 0 < many ∧ many ≤ 1000) ∧ aa = [.dat (eN many)] ∧ ss = ePen pen ∧ zz = .dat (eN (drawN pen many)) ∧ s2 = ePen (drawP pen many)
theorem r__law_draw (pen : Pen) (many : Nat) (hc : PenOk pen ∧ 0 < many ∧ many ≤ 1000) : F__law_draw [.dat (eN many)] (ePen pen) (.dat (eN (drawN pen many))) (ePen (drawP pen many)) := ⟨pen, many, hc, rfl, rfl, rfl, rfl⟩
abbrev sp__law_draw (K : PySem.W.Frag) : Sp := spO K F__law_draw
local macro_rules | `(tactic| walk_at "g1") => `(tactic| ((with_reducible apply r__law_draw); (try (walk_at "sd"))))
theorem sc__law_draw : FnScope ["_law_pen_here", "_law_many", "_law_found", "_law_mixed"] ["_law_pen_here", "_law_many"] (defScope s__law_draw) := ⟨rfl, rfl, rfl, by decide +kernel, rfl, by decide +kernel, by decide +kernel⟩
-- slots: 0 _law_pen_here, 1 _law_many, 2 _law_found, 3 _law_mixed
theorem df__law_draw (T : Tx K mg) : Df P w K mg base "_law_draw" 1 ["_law_pen_here", "_law_many"] (sp__law_draw K) := by
  obtain ⟨f, fd, hm, F⟩ := T.d__law_draw
  refine ⟨f, fd, hm, F.kp, F.binds (ps := ["_law_pen_here", "_law_many"]) (fun _ _ _ _ _ _ us hl => match us, hl with | [_, _], _ => rfl), F.ok sc__law_draw (fun vs H Q E h => ?_) (fun cdv A outer s H vs Q E hr h => ?_)⟩
  · obtain ⟨pp, H0, rest, aa, ss, zz, s2, hv, s0, mk, hd, ⟨pen, many, hc, rfl, rfl, rfl, rfl⟩, q⟩ := h
    rw [hv]
    exact congrArg (· + 1) hd.length
  obtain ⟨pp, H0, rest, aa, ss, zz, s2, hv, s0, mk, hd, ⟨pen, many, hc, rfl, rfl, rfl, rfl⟩, q⟩ := h
  refine ⟨_, (pss_cons (ps_if (pt_cmpR (oK oD_gt (K := K)) (pe_ix (xK ixD (K := K)) (pv 0) pe_int (fun _ _ => rfl)) pe_int (nomark _)) (pss_cons (ps_asg (pe_op (oK oD_mod (K := K)) (pe_ix (xK ixD (K := K)) (pv 0) pe_int (fun _ _ => rfl)) (pv 1)) (pg_name (i := 2) sc__law_draw.nd rfl (by first | exact Or.inl rfl | exact Or.inr rfl))) (pss_cons (ps_asg (pe_op (oK oD_fdiv (K := K)) (pe_ix (xK ixD (K := K)) (pv 0) pe_int (fun _ _ => rfl)) (pv 1)) (pg_sub (pv 0) pe_int set_list)) (pss_one (ps_ret (pv 2))))) pss_nil) (pss_cons (ps_asg (pe_op (oK oD_add (K := K)) (pe_ix (xK ixD (K := K)) (pv 0) pe_int (fun _ _ => rfl)) pe_int) (pg_sub (pv 0) pe_int set_list)) (pss_cons (ps_asg (pe_op (oK oD_mod (K := K)) (pe_op (oK oD_add (K := K)) (pe_op (oK oD_add (K := K)) (pe_op (oK oD_mul (K := K)) (pe_ix (xK ixD (K := K)) (pv 0) pe_int (fun _ _ => rfl)) pe_int) (pe_op (oK oD_mul (K := K)) pe_int (pe_ix (xK ixD (K := K)) (pv 0) pe_int (fun _ _ => rfl)))) pe_int) pe_int) (pg_sub (pv 0) pe_int set_list)) (pss_cons (ps_asg (pe_op (oK oD_mod (K := K)) (pe_op (oK oD_add (K := K)) (pe_op (oK oD_add (K := K)) (pe_op (oK oD_mul (K := K)) (pe_ix (xK ixD (K := K)) (pv 0) pe_int (fun _ _ => rfl)) (pe_ix (xK ixD (K := K)) (pv 0) pe_int (fun _ _ => rfl))) (pe_op (oK oD_mul (K := K)) pe_int (pe_ix (xK ixD (K := K)) (pv 0) pe_int (fun _ _ => rfl)))) pe_int) pe_int) (pg_name (i := 3) sc__law_draw.nd rfl (by first | exact Or.inl rfl | exact Or.inr rfl))) (pss_cons (ps_asg (pe_op (oK oD_mod (K := K)) (pe_op (oK oD_add (K := K)) (pe_op (oK oD_mul (K := K)) (pv 3) (pv 3)) (pe_op (oK oD_mul (K := K)) pe_int (pv 3))) pe_int) (pg_name (i := 3) sc__law_draw.nd rfl (by first | exact Or.inl rfl | exact Or.inr rfl))) (pss_one (ps_ret (pe_op (oK oD_mod (K := K)) (pe_op (oK oD_fdiv (K := K)) (pv 3) pe_int) (pv 1))))))))), ?_⟩
  refine body_endO s0 hv mk hd q ?_
  obtain ⟨h1, h2, h3⟩ := hc
  have hm : (0 : Int) < (many : Int) := by omega
  apply y_guard (b := decide (0 < pen.a))
  · refine et_flat (i := 0) (j := 0) (p := pp) (ds := ePen pen) ?_ rfl rfl rfl
    walk_at "go"
  · intro hb
    have ha := of_decide_eq_true hb
    have e1 : eN (drawN pen many) = .int (pen.a % (many : Int)) := by
      unfold drawN
      rw [if_pos ha]
      have := Int.emod_nonneg pen.a (show (many : Int) ≠ 0 by omega)
      show PyData.int _ = _
      rw [Int.toNat_of_nonneg this]
    have e2 : drawP pen many = ⟨pen.a / (many : Int), pen.b, pen.c⟩ := by
      unfold drawP
      rw [if_pos ha]
    rw [e1, e2]
    apply y_set1 (r := .dat (.int (pen.a % (many : Int))))
    · refine ev_flat (i := 0) (j := 0) (p := pp) (ds := ePen pen) ?_ rfl rfl rfl rfl
      walk_at "go"
    apply y_setOwn (j := 0) (p := pp) (ds := ePen pen) (k := 0) (i := 0) (d := .int (pen.a / (many : Int)))
    · refine ev_flat (i := 0) (j := 0) (p := pp) (ds := ePen pen) ?_ rfl rfl rfl rfl
      refine x_op (R := dDiv) (a := .dat (.int pen.a)) (b := .dat (eN many)) ?_ ?_ ⟨⟨hm, by omega⟩, rfl⟩ <;> walk_at "go"
    · walk_at "go"
    · walk_at "go"
    · rfl
    · rfl
    · rfl
    apply y_ret
    · walk_at "go"
    · rfl
  · intro hb
    have ha := of_decide_eq_false hb
    have hb2 : 0 ≤ mixB pen ∧ mixB pen < 2147483647 := ⟨Int.emod_nonneg _ (by decide), Int.emod_lt_of_pos _ (by decide)⟩
    have hm1 : 0 ≤ mix1 (mixB pen) ∧ mix1 (mixB pen) < 2147483629 := ⟨Int.emod_nonneg _ (by decide), Int.emod_lt_of_pos _ (by decide)⟩
    have e1 : eN (drawN pen many) = .int (mix2 (mix1 (mixB pen)) / 16 % (many : Int)) := by
      unfold drawN
      rw [if_neg ha]
      have := Int.emod_nonneg (mix2 (mix1 (mixB pen)) / 16) (show (many : Int) ≠ 0 by omega)
      show PyData.int _ = _
      rw [Int.toNat_of_nonneg this]
    have e2 : drawP pen many = ⟨pen.a, mixB pen, pen.c + 1⟩ := by
      unfold drawP
      rw [if_neg ha]
    rw [e1, e2]
    have c1 := h1.b
    have c2 := h1.b'
    have c3 := h1.c
    have q1 : CMul pen.b 48271 := .inl ⟨by omega, by omega⟩
    have q2 : CMul 1009 (pen.c + 1) := .inl ⟨by decide, by decide⟩
    have q3 : CMul (mixB pen) (mixB pen) := .inl ⟨by omega, by omega⟩
    have q4 : CMul 69621 (mixB pen) := .inl ⟨by decide, by decide⟩
    have q5 : CMul (mix1 (mixB pen)) (mix1 (mixB pen)) := .inl ⟨by omega, by omega⟩
    have q6 : CMul 40014 (mix1 (mixB pen)) := .inl ⟨by decide, by decide⟩
    apply y_setOwn (j := 0) (p := pp) (ds := ePen pen) (k := 2) (i := 2) (d := .int (pen.c + 1))
    · refine ev_flat (i := 0) (j := 0) (p := pp) (ds := ePen pen) ?_ rfl rfl rfl rfl
      walk_at "go"
    · walk_at "go"
    · walk_at "go"
    · rfl
    · rfl
    · rfl
    apply y_setOwn (j := 0) (p := pp) (ds := [.int pen.a, .int pen.b, .int (pen.c + 1)]) (k := 1) (i := 1) (d := .int (mixB pen))
    · refine ev_flat (i := 0) (j := 0) (p := pp) (ds := [.int pen.a, .int pen.b, .int (pen.c + 1)]) ?_ rfl rfl rfl rfl
      unfold mixB
      walk_at "go"
    · walk_at "go"
    · walk_at "go"
    · rfl
    · rfl
    · rfl
    apply y_set1 (r := .dat (.int (mix1 (mixB pen))))
    · refine ev_flat (i := 0) (j := 0) (p := pp) (ds := [.int pen.a, .int (mixB pen), .int (pen.c + 1)]) ?_ rfl rfl rfl rfl
      show EvG K [] _ _ [] (.dat (.int ((mixB pen * mixB pen + 69621 * mixB pen + 11) % 2147483629))) []
      walk_at "go"
    apply y_set1 (r := .dat (.int (mix2 (mix1 (mixB pen)))))
    · show EvG K _ _ _ _ (.dat (.int ((mix1 (mixB pen) * mix1 (mixB pen) + 40014 * mix1 (mixB pen)) % 2147483587))) _
      walk_at "go"
    apply y_ret
    · refine x_op (R := dMod) (a := .dat (.int (mix2 (mix1 (mixB pen)) / 16))) (b := .dat (eN many)) (x_op (R := dDiv) (a := .dat (.int (mix2 (mix1 (mixB pen))))) (b := .dat (.int 16)) ?_ ?_ ⟨⟨by decide, by decide⟩, rfl⟩) ?_ ⟨hm, rfl⟩ <;> walk_at "go"
    · rfl
end
end Wk
end
section
set_option Elab.async false
set_option linter.all false
set_option autoImplicit false
set_option maxRecDepth 100000
set_option maxHeartbeats 4000000
namespace Wk
open PySem L2 Wp Wm
/-! ### the words of the evaluation -/
local macro_rules | `(tactic| walk_at "sd") => `(tactic| first
  | assumption
  | exact trivial
  | exact rfl
  | omega
  | (refine ⟨?_, ?_⟩ <;> (walk_at "sd")))
local macro_rules | `(tactic| walk_at "g1") => `(tactic| first
  | ((with_reducible apply ev_var); exact rfl)
  | with_reducible exact ev_int
  | with_reducible exact ev_str
  | with_reducible exact ev_bl
  | with_reducible exact ev_non
  | with_reducible exact ev_raw
  | exact ev_int
  | with_reducible exact xa_nil
  | with_reducible exact xd_nil
  | with_reducible exact eo_none
  | with_reducible apply x_op
  | with_reducible apply x_cb
  | with_reducible apply x_call
  | with_reducible apply x_tup
  | with_reducible apply x_lst
  | with_reducible apply xa_cons
  | with_reducible apply xd_cons
  | with_reducible apply xo_some
  | with_reducible apply x_un
  | with_reducible apply x_sl
  | with_reducible apply x_if
  | with_reducible apply x_and
  | with_reducible apply x_or
  | with_reducible apply x_not
  | with_reducible apply x_chain
  | with_reducible apply xt_test
  | with_reducible apply xt_B
  | with_reducible apply xt_not
  | with_reducible apply xt_and
  | with_reducible apply xt_or
  | ((with_reducible refine fun _ => ?_); first | with_reducible show EvG _ _ _ _ _ _ _ | with_reducible show EtG _ _ _ _ _ _ _)
  | ((with_reducible refine fun _ _ => ?_); first | with_reducible show TgW _ _ _ _ _ _ | with_reducible show EvG _ _ _ _ _ _ _ | with_reducible show EtG _ _ _ _ _ _ _)
  | exact rfl
  | assumption
  | exact ⟨_, rfl, rfl⟩
  | exact ⟨_, by assumption, rfl⟩
  | exact ⟨trivial, rfl⟩
  | exact Or.inl rfl
  | exact ⟨rfl, rfl, rfl⟩
  | exact ⟨by decide, rfl⟩
  | exact ⟨by assumption, rfl⟩
  | exact ⟨rfl, by assumption⟩
  | exact ⟨rfl, by decide⟩
  | (show List.length _ ≤ 1000; exact Nat.le_of_ble_eq_true rfl)
  | fail "open")
local macro_rules | `(tactic| walk_at "go") => `(tactic| repeat' (walk_at "g1"))
local macro_rules | `(tactic| walk_at "g1") => `(tactic| ((with_reducible apply ix_pin); (try (walk_at "sd"))))
local macro_rules | `(tactic| walk_at "g1") => `(tactic| first
  | with_reducible exact tw_name
  | with_reducible apply tw_tup
  | with_reducible exact tws_nil
  | with_reducible apply tws_cons
  | with_reducible exact tg_name
  | with_reducible apply tg_tup
  | with_reducible exact tgs_nil
  | with_reducible apply tgs_cons
  | with_reducible exact r_all _ _
  | with_reducible exact r_sum _ _
  | with_reducible exact r_len _
  | with_reducible exact r_lenT _)
local macro_rules | `(tactic| walk_at "g1") => `(tactic| first
  | with_reducible exact dEq_wayL _
  | with_reducible exact dEq_wordA _
  | with_reducible exact dEq_wordB _
  | with_reducible exact dEq_int _ _
  | with_reducible exact dNe_int _ _
  | with_reducible exact dEq_bool _ _
  | with_reducible exact r_all2 _ _ _
  | with_reducible exact dIn_nats _ _
  | with_reducible exact dNotIn_nats _ _)
local macro_rules | `(tactic| walk_at "g1") => `(tactic| first
  | ((with_reducible apply dMod_at); (walk_at "sd"))
  | ((with_reducible apply dDiv_at); (walk_at "sd"))
  | ((with_reducible apply dMul_at); (walk_at "sd")))

section
variable {P : Program} {w : World} {K : PySem.W.Frag} {mg : Str → Option Value} {base : Heap}
local macro_rules | `(tactic| walk_at "g1") => `(tactic| ((with_reducible apply r_is_whole); (try (walk_at "sd"))))
local macro_rules | `(tactic| walk_at "g1") => `(tactic| ((with_reducible apply r_is_within); (try (walk_at "sd"))))
local macro_rules | `(tactic| walk_at "g1") => `(tactic| ((with_reducible apply r_is_long); (try (walk_at "sd"))))
local macro_rules | `(tactic| walk_at "g1") => `(tactic| ((with_reducible apply r_rises); (try (walk_at "sd"))))
local macro_rules | `(tactic| walk_at "g1") => `(tactic| ((with_reducible apply r_is_way); (try (walk_at "sd"))))
local macro_rules | `(tactic| walk_at "g1") => `(tactic| ((with_reducible apply r_other_way); (try (walk_at "sd"))))
local macro_rules | `(tactic| walk_at "g1") => `(tactic| ((with_reducible apply r_is_pin_by); (try (walk_at "sd"))))
local macro_rules | `(tactic| walk_at "g1") => `(tactic| ((with_reducible apply r_cross); (try (walk_at "sd"))))
local macro_rules | `(tactic| walk_at "g1") => `(tactic| ((with_reducible apply r_between); (try (walk_at "sd"))))
local macro_rules | `(tactic| walk_at "g1") => `(tactic| ((with_reducible apply r_pairs_of); (try (walk_at "sd"))))
local macro_rules | `(tactic| walk_at "g1") => `(tactic| ((with_reducible apply r_is_board); (try (walk_at "sd"))))
local macro_rules | `(tactic| walk_at "g1") => `(tactic| ((with_reducible apply r_need_board); (try (walk_at "sd"))))
local macro_rules | `(tactic| walk_at "g1") => `(tactic| ((with_reducible apply r_need_pins); (try (walk_at "sd"))))
local macro_rules | `(tactic| walk_at "g1") => `(tactic| ((with_reducible apply r_with_ways_by); (try (walk_at "sd"))))
local macro_rules | `(tactic| walk_at "g1") => `(tactic| ((with_reducible apply r_with_ways); (try (walk_at "sd"))))
local macro_rules | `(tactic| walk_at "g1") => `(tactic| ((with_reducible apply r_mirrored); (try (walk_at "sd"))))
local macro_rules | `(tactic| walk_at "g1") => `(tactic| ((with_reducible apply r_other_word); (try (walk_at "sd"))))
local macro_rules | `(tactic| walk_at "g1") => `(tactic| ((with_reducible apply r_turned_about); (try (walk_at "sd"))))
local macro_rules | `(tactic| walk_at "g1") => `(tactic| ((with_reducible apply r_is_stand_by); (try (walk_at "sd"))))
local macro_rules | `(tactic| walk_at "g1") => `(tactic| ((with_reducible apply r_need_stand); (try (walk_at "sd"))))
local macro_rules | `(tactic| walk_at "g1") => `(tactic| ((with_reducible apply r_look_of); (try (walk_at "sd"))))
local macro_rules | `(tactic| walk_at "g1") => `(tactic| ((with_reducible apply r_met_first); (try (walk_at "sd"))))
local macro_rules | `(tactic| walk_at "g1") => `(tactic| ((with_reducible apply r_beside); (try (walk_at "sd"))))
local macro_rules | `(tactic| walk_at "g1") => `(tactic| ((with_reducible apply r_beat_by); (try (walk_at "sd"))))
local macro_rules | `(tactic| walk_at "g1") => `(tactic| ((with_reducible apply r_beat); (try (walk_at "sd"))))
local macro_rules | `(tactic| walk_at "g1") => `(tactic| ((with_reducible apply r_all_stands); (try (walk_at "sd"))))
local macro_rules | `(tactic| walk_at "g1") => `(tactic| ((with_reducible apply r_need_row); (try (walk_at "sd"))))
local macro_rules | `(tactic| walk_at "g1") => `(tactic| ((with_reducible apply r_need_seen); (try (walk_at "sd"))))
local macro_rules | `(tactic| walk_at "g1") => `(tactic| ((with_reducible apply r_by_ways); (try (walk_at "sd"))))
local macro_rules | `(tactic| walk_at "g1") => `(tactic| ((with_reducible apply r_all_ways); (try (walk_at "sd"))))
local macro_rules | `(tactic| walk_at "g1") => `(tactic| ((with_reducible apply r_end_of); (try (walk_at "sd"))))
local macro_rules | `(tactic| walk_at "g1") => `(tactic| ((with_reducible apply r_stories); (try (walk_at "sd"))))
local macro_rules | `(tactic| walk_at "g1") => `(tactic| ((with_reducible apply r_many_stories); (try (walk_at "sd"))))
local macro_rules | `(tactic| walk_at "g1") => `(tactic| ((with_reducible apply r_some_story); (try (walk_at "sd"))))
local macro_rules | `(tactic| walk_at "g1") => `(tactic| ((with_reducible apply r_is_story); (try (walk_at "sd"))))
local macro_rules | `(tactic| walk_at "g1") => `(tactic| ((with_reducible apply r_next_pins); (try (walk_at "sd"))))
local macro_rules | `(tactic| walk_at "g1") => `(tactic| ((with_reducible apply r_sure_ways); (try (walk_at "sd"))))
local macro_rules | `(tactic| walk_at "g1") => `(tactic| ((with_reducible apply r__law_cell_at); (try (walk_at "sd"))))
local macro_rules | `(tactic| walk_at "g1") => `(tactic| ((with_reducible apply r__law_pen); (try (walk_at "sd"))))
local macro_rules | `(tactic| walk_at "g1") => `(tactic| ((with_reducible apply r__law_draw); (try (walk_at "sd"))))
def F__law_pick : List RD → List PyData → RD → List PyData → Prop := fun aa ss zz s2 => ∃ (pen : Pen) (ds : List PyData) (d : PyData), (PenOk pen ∧ 0 < ds.length ∧ ds.length ≤ 1000 ∧ ds[drawN pen ds.length]? = some d) ∧ aa = [.dat (.list ds)] ∧ ss = ePen pen ∧ zz = .dat d ∧ s2 = ePen (drawP pen ds.length)
theorem r__law_pick (pen : Pen) (ds : List PyData) (d : PyData) (hc : PenOk pen ∧ 0 < ds.length ∧ ds.length ≤ 1000 ∧ ds[drawN pen ds.length]? = some d) : F__law_pick [.dat (.list ds)] (ePen pen) (.dat d) (ePen (drawP pen ds.length)) := ⟨pen, ds, d, hc, rfl, rfl, rfl, rfl⟩
abbrev sp__law_pick (K : PySem.W.Frag) : Sp := spO K F__law_pick
local macro_rules | `(tactic| walk_at "g1") => `(tactic| ((with_reducible apply r__law_pick); (try (walk_at "sd"))))
theorem sc__law_pick : FnScope ["_law_pen_here", "_law_some"] ["_law_pen_here", "_law_some"] (defScope s__law_pick) := ⟨rfl, rfl, rfl, by decide +kernel, rfl, by decide +kernel, by decide +kernel⟩
-- slots: 0 _law_pen_here, 1 _law_some
theorem df__law_pick (T : Tx K mg) (df__law_draw : Df P w K mg base "_law_draw" 1 ["_law_pen_here", "_law_many"] (sp__law_draw K)) : Df P w K mg base "_law_pick" 2 ["_law_pen_here", "_law_some"] (sp__law_pick K) := by
  obtain ⟨f, fd, hm, F⟩ := T.d__law_pick
  refine ⟨f, fd, hm, F.kp, F.binds (ps := ["_law_pen_here", "_law_some"]) (fun _ _ _ _ _ _ us hl => match us, hl with | [_, _], _ => rfl), F.ok sc__law_pick (fun vs H Q E h => ?_) (fun cdv A outer s H vs Q E hr h => ?_)⟩
  · obtain ⟨pp, H0, rest, aa, ss, zz, s2, hv, s0, mk, hd, ⟨pen, ds, d, hc, rfl, rfl, rfl, rfl⟩, q⟩ := h
    rw [hv]
    exact congrArg (· + 1) hd.length
  obtain ⟨pp, H0, rest, aa, ss, zz, s2, hv, s0, mk, hd, ⟨pen, ds, d, hc, rfl, rfl, rfl, rfl⟩, q⟩ := h
  refine ⟨_, (pss_one (ps_ret (pe_ix (xK ixD (K := K)) (pv 1) (pe_df df__law_draw (hr.mono (by decide)) (by rfl) (pa_cons (pv 0) (pa_cons (pe_callB (cK cD_lenA (K := K) (R' := fLenA P w)) (by rfl) T.z_len (by decide +kernel) (pa_cons (pv 1) pa_nil)) pa_nil))) (fun _ _ => rfl)))), ?_⟩
  refine body_endO s0 hv mk hd q ?_
  obtain ⟨h1, h2, h3, h4⟩ := hc
  refine sv_ret (r := .dat d) (M1 := [.lst (ePen (drawP pen ds.length))]) (ev_op (F := dIx) (ps := [pp]) (M1 := [.lst (ePen pen)]) (a := .dat (.list ds)) (b := .dat (eN (drawN pen ds.length))) ?_ (ev_callO (ps := [pp]) (j := 0) (p := pp) (rs := [.dat (eN ds.length)]) (st := ePen pen) (M1 := [.lst (ePen pen)]) ?_ rfl rfl (r__law_draw pen ds.length ⟨h1, h2, h3⟩)) ⟨_, atI_nat h4, rfl⟩) rfl
  · walk_at "go"
  · walk_at "go"
def F__law_cross : List RD → RD → Prop := fun aa zz => ∃ (u v : Dir), (Sm v) ∧ aa = [.dat (eD u), .dat (eD v)] ∧ zz = .dat (.int (Wm.cross u v))
theorem r__law_cross (u v : Dir) (hc : Sm v) : F__law_cross [.dat (eD u), .dat (eD v)] (.dat (.int (Wm.cross u v))) := ⟨u, v, hc, rfl, rfl⟩
abbrev sp__law_cross (K : PySem.W.Frag) : Sp := spD K F__law_cross
local macro_rules | `(tactic| walk_at "g1") => `(tactic| ((with_reducible apply r__law_cross); (try (walk_at "sd"))))
theorem sc__law_cross : FnScope ["_law_one", "_law_other"] ["_law_one", "_law_other"] (defScope s__law_cross) := ⟨rfl, rfl, rfl, by decide +kernel, rfl, by decide +kernel, by decide +kernel⟩
-- slots: 0 _law_one, 1 _law_other
theorem df__law_cross (T : Tx K mg) : Df P w K mg base "_law_cross" 1 ["_law_one", "_law_other"] (sp__law_cross K) := by
  obtain ⟨f, fd, hm, F⟩ := T.d__law_cross
  refine ⟨f, fd, hm, F.kp, F.binds (ps := ["_law_one", "_law_other"]) (fun _ _ _ _ _ _ us hl => match us, hl with | [_, _], _ => rfl), F.ok sc__law_cross (fun vs H Q E h => ?_) (fun cdv A outer s H vs Q E hr h => ?_)⟩
  · obtain ⟨H0, aa, zz, s0, hd, ⟨u, v, hc, rfl, rfl⟩, q⟩ := h
    exact hd.length
  obtain ⟨H0, aa, zz, s0, hd, ⟨u, v, hc, rfl, rfl⟩, q⟩ := h
  refine ⟨_, (pss_one (ps_ret (pe_op (oK oD_sub (K := K)) (pe_op (oK oD_mul (K := K)) (pe_ix (xK ixD (K := K)) (pv 0) pe_int (fun _ _ => rfl)) (pe_ix (xK ixD (K := K)) (pv 1) pe_int (fun _ _ => rfl))) (pe_op (oK oD_mul (K := K)) (pe_ix (xK ixD (K := K)) (pv 0) pe_int (fun _ _ => rfl)) (pe_ix (xK ixD (K := K)) (pv 1) pe_int (fun _ _ => rfl)))))), ?_⟩
  refine body_end s0 hd q ?_
  obtain ⟨h1, h2, h3, h4⟩ := hc
  refine y_ret ?_ rfl
  refine x_op (a := .dat (.int (u.1 * v.2))) (b := .dat (.int (u.2 * v.1))) (x_op (a := .dat (.int u.1)) (b := .dat (.int v.2)) ?_ ?_ ⟨.inr ⟨h3, h4⟩, rfl⟩) (x_op (a := .dat (.int u.2)) (b := .dat (.int v.1)) ?_ ?_ ⟨.inr ⟨h1, h2⟩, rfl⟩) ⟨trivial, rfl⟩ <;> walk_at "go"
abbrev eSp (p : Nat × Nat) : PyData := .tuple [eN p.1, eN p.2]
theorem ix_spot {s : Spots} {i : Nat} (h : i < s.length) : dIx (.dat (.list (s.map eSp))) (.dat (eN i)) (.dat (eSp (spotAt s i))) := ⟨_, at_map (by
  show s[i]? = some (s.getD i _)
  rw [List.getD_eq_getElem?_getD, List.getElem?_eq_getElem h]; rfl), rfl⟩
local macro_rules | `(tactic| walk_at "g1") => `(tactic| ((with_reducible apply ix_spot); (walk_at "sd")))
def F__law_far : List RD → RD → Prop := fun aa zz => ∃ (s : Spots) (i j : Nat), (i < s.length ∧ j < s.length) ∧ aa = [.dat (.list (s.map eSp)), .dat (eN i), .dat (eN j)] ∧ zz = .dat (eD (farS s i j))
theorem r__law_far (s : Spots) (i j : Nat) (hc : i < s.length ∧ j < s.length) : F__law_far [.dat (.list (s.map eSp)), .dat (eN i), .dat (eN j)] (.dat (eD (farS s i j))) := ⟨s, i, j, hc, rfl, rfl⟩
abbrev sp__law_far (K : PySem.W.Frag) : Sp := spD K F__law_far
local macro_rules | `(tactic| walk_at "g1") => `(tactic| ((with_reducible apply r__law_far); (try (walk_at "sd"))))
theorem sc__law_far : FnScope ["_law_pins", "_law_one", "_law_other"] ["_law_pins", "_law_one", "_law_other"] (defScope s__law_far) := ⟨rfl, rfl, rfl, by decide +kernel, rfl, by decide +kernel, by decide +kernel⟩
-- slots: 0 _law_pins, 1 _law_one, 2 _law_other
theorem df__law_far (T : Tx K mg) : Df P w K mg base "_law_far" 1 ["_law_pins", "_law_one", "_law_other"] (sp__law_far K) := by
  obtain ⟨f, fd, hm, F⟩ := T.d__law_far
  refine ⟨f, fd, hm, F.kp, F.binds (ps := ["_law_pins", "_law_one", "_law_other"]) (fun _ _ _ _ _ _ us hl => match us, hl with | [_, _, _], _ => rfl), F.ok sc__law_far (fun vs H Q E h => ?_) (fun cdv A outer s H vs Q E hr h => ?_)⟩
  · obtain ⟨H0, aa, zz, s0, hd, ⟨s, i, j, hc, rfl, rfl⟩, q⟩ := h
    exact hd.length
  obtain ⟨H0, aa, zz, s0, hd, ⟨s, i, j, hc, rfl, rfl⟩, q⟩ := h
  refine ⟨_, (pss_one (ps_ret (pe_tup (pa_cons (pe_op (oK oD_sub (K := K)) (pe_ix (xK ixD (K := K)) (pe_ix (xK ixD (K := K)) (pv 0) (pv 2) (fun _ _ => rfl)) pe_int (fun _ _ => rfl)) (pe_ix (xK ixD (K := K)) (pe_ix (xK ixD (K := K)) (pv 0) (pv 1) (fun _ _ => rfl)) pe_int (fun _ _ => rfl))) (pa_cons (pe_op (oK oD_sub (K := K)) (pe_ix (xK ixD (K := K)) (pe_ix (xK ixD (K := K)) (pv 0) (pv 2) (fun _ _ => rfl)) pe_int (fun _ _ => rfl)) (pe_ix (xK ixD (K := K)) (pe_ix (xK ixD (K := K)) (pv 0) (pv 1) (fun _ _ => rfl)) pe_int (fun _ _ => rfl))) pa_nil))))), ?_⟩
  refine body_end s0 hd q ?_
  obtain ⟨h1, h2⟩ := hc
  refine y_ret ?_ rfl
  walk_at "go"
theorem idx_pre {n i j : Nat} (hji : j < i) (hi : i < n) : (idx n)[(idx i).length + j]? = some (j, i) := by
  have step : ∀ m, idx (m + 1) = idx m ++ (List.range m).map fun k => (k, m) := fun m => by
    unfold idx
    rw [List.range_succ, List.flatMap_append, List.flatMap_cons, List.flatMap_nil, List.append_nil]
  induction n with
  | zero => omega
  | succ n ih =>
    rw [step]
    by_cases h : i = n
    · subst h
      rw [List.getElem?_append_right (by omega), Nat.add_sub_cancel_left, List.getElem?_map, List.getElem?_range hji]
      rfl
    · have := ih (by omega)
      rw [List.getElem?_append_left (List.getElem?_eq_some_iff.mp this).1]
      exact this
theorem idx_len (i : Nat) : (idx (i + 1)).length = (idx i).length + i := by
  unfold idx
  rw [List.range_succ, List.flatMap_append, List.flatMap_cons, List.flatMap_nil, List.append_nil, List.length_append, List.length_map, List.length_range]
theorem ok_D (d : Dir) : (eD d).canLay0 = true ∧ (eD d).depth ≤ 1 := ⟨rfl, Nat.le_refl _⟩
theorem dEq_dir (d : Dir) : dEq false (.dat (eD d)) (.dat (.tuple [.int 0, .int 0])) (.dat (.bool (decide (d = (0, 0))))) := dEq_e d ((0 : Int), (0 : Int))
theorem spot_mem {s : Spots} {i : Nat} (h : i < s.length) : spotAt s i ∈ s := by
  unfold spotAt
  rw [List.getD_eq_getElem?_getD, List.getElem?_eq_getElem h]
  exact List.getElem_mem h
def F__law_fits : List RD → RD → Prop := fun aa zz => ∃ (s : Spots) (m : Nat × Nat), (s.length ≤ 8 ∧ (∀ p ∈ s ++ [m], p.1 ≤ 99 ∧ p.2 ≤ 99)) ∧ aa = [.dat (.list (s.map eSp)), .dat (eSp m)] ∧ zz = .dat (.bool (fitsB s m))
theorem r__law_fits (s : Spots) (m : Nat × Nat) (hc : s.length ≤ 8 ∧ (∀ p ∈ s ++ [m], p.1 ≤ 99 ∧ p.2 ≤ 99)) : F__law_fits [.dat (.list (s.map eSp)), .dat (eSp m)] (.dat (.bool (fitsB s m))) := ⟨s, m, hc, rfl, rfl⟩
abbrev sp__law_fits (K : PySem.W.Frag) : Sp := spD K F__law_fits
local macro_rules | `(tactic| walk_at "g1") => `(tactic| ((with_reducible apply r__law_fits); (try (walk_at "sd"))))
theorem sc__law_fits : FnScope ["_law_pins", "_law_more", "_law_some", "_law_ways", "_law_at", "_law_one", "_law_here", "_law_other"] ["_law_pins", "_law_more"] (defScope s__law_fits) := ⟨rfl, rfl, rfl, by decide +kernel, rfl, by decide +kernel, by decide +kernel⟩
-- slots: 0 _law_pins, 1 _law_more, 2 _law_some, 3 _law_ways, 4 _law_at, 5 _law_one, 6 _law_here, 7 _law_other
theorem df__law_fits (T : Tx K mg) (df__law_cross : Df P w K mg base "_law_cross" 1 ["_law_one", "_law_other"] (sp__law_cross K)) (df__law_far : Df P w K mg base "_law_far" 1 ["_law_pins", "_law_one", "_law_other"] (sp__law_far K)) : Df P w K mg base "_law_fits" 2 ["_law_pins", "_law_more"] (sp__law_fits K) := by
  obtain ⟨f, fd, hm, F⟩ := T.d__law_fits
  refine ⟨f, fd, hm, F.kp, F.binds (ps := ["_law_pins", "_law_more"]) (fun _ _ _ _ _ _ us hl => match us, hl with | [_, _], _ => rfl), F.ok sc__law_fits (fun vs H Q E h => ?_) (fun cdv A outer s H vs Q E hr h => ?_)⟩
  · obtain ⟨H0, aa, zz, s0, hd, ⟨s, m, hc, rfl, rfl⟩, q⟩ := h
    exact hd.length
  obtain ⟨H0, aa, zz, s0, hd, ⟨s, m, hc, rfl, rfl⟩, q⟩ := h
  refine ⟨_, (pss_cons (ps_asg (pe_op (oK oD_add (K := K)) (pe_callTy (cK cD_list (K := K)) (by rfl) T.z_list (by decide +kernel) (pa_cons (pv 0) pa_nil)) (pe_lst (pa_cons (pv 1) pa_nil))) (pg_name (i := 2) sc__law_fits.nd rfl (by first | exact Or.inl rfl | exact Or.inr rfl))) (pss_cons (ps_asg (pe_lst pa_nil) (pg_name (i := 3) sc__law_fits.nd rfl (by first | exact Or.inl rfl | exact Or.inr rfl))) (pss_cons (ps_for PassesOwn.never rfl (pi_range1 (by rfl) T.z_range (pa_cons (pe_callB (cK cD_lenA (K := K) (R' := fLenA P w)) (by rfl) T.z_len (by decide +kernel) (pa_cons (pv 2) pa_nil)) pa_nil)) (pg_name (i := 4) sc__law_fits.nd rfl (by first | exact Or.inl rfl | exact Or.inr rfl)) (pss_one (ps_for PassesOwn.never rfl (pi_range1 (by rfl) T.z_range (pa_cons (pv 4) pa_nil)) (pg_name (i := 5) sc__law_fits.nd rfl (by first | exact Or.inl rfl | exact Or.inr rfl)) (pss_cons (ps_asg (pe_df df__law_far (hr.mono (by decide)) (by rfl) (pa_cons (pv 2) (pa_cons (pv 5) (pa_cons (pv 4) pa_nil)))) (pg_name (i := 6) sc__law_fits.nd rfl (by first | exact Or.inl rfl | exact Or.inr rfl))) (pss_cons (ps_if (pt_cmpR (oK (oD_eq hr.units) (K := K)) (pv 6) (pe_tup (pa_cons pe_int (pa_cons pe_int pa_nil))) (nomark _)) (pss_one (ps_ret pe_bl)) pss_nil) (pss_cons (ps_if (pt_cmpR (oK (oD_ne hr.units) (K := K)) (pe_lc (own := [("_law_other", 7)]) (g := (gName 7)) rfl sc__law_fits.nd (kSeq (pv 3) (K := K)) (blkOk_by (show blkC ["_law_pins", "_law_more", "_law_some", "_law_ways", "_law_at", "_law_one", "_law_here", "_law_other"] (defScope s__law_fits) _ _ = true by decide +kernel)) (fun _ _ _ _ _ => (pg_name (i := 7) sc__law_fits.nd rfl (by first | exact Or.inl rfl | exact Or.inr rfl))) (fun _ _ _ _ _ => (pts_one (pt_cmpR (oK (oD_eq hr.units) (K := K)) (pe_df df__law_cross (hr.mono (by decide)) (by rfl) (pa_cons (pv 6) (pa_cons (pv 7) pa_nil))) pe_int (nomark _)))) (fun _ _ _ _ _ => (pv 7))) (pe_lst pa_nil) (nomark _)) (pss_one (ps_ret pe_bl)) pss_nil) (pss_one (ps_expr (pe_bm PySem.F.plainAttrs_list PySem.F.slot_list_append PySem.F.type_list_append mt_append (pv 3) (pa_cons (pv 6) pa_nil)))))))))) (pss_one (ps_ret pe_bl))))), ?_⟩
  refine body_end s0 hd q ?_
  obtain ⟨h1, h2⟩ := hc
  have hn : (s ++ [m]).length = s.length + 1 := by rw [List.length_append]; rfl
  have hsm : ∀ i j, i < (s ++ [m]).length → j < (s ++ [m]).length → Sm (farS (s ++ [m]) i j) := fun i j hi hj => by
    have e1 := h2 _ (spot_mem hi)
    have e2 := h2 _ (spot_mem hj)
    unfold Sm farS
    refine ⟨?_, ?_, ?_, ?_⟩ <;> simp only <;> omega
  have hL : ∀ i j, j < i → i < (s ++ [m]).length → (dirsS (s ++ [m]))[(idx i).length + j]? = some (farS (s ++ [m]) j i) := fun i j hj hi => by
    unfold dirsS
    rw [List.getElem?_map, idx_pre hj hi]
    rfl
  have hLs : ∀ d ∈ dirsS (s ++ [m]), Sm d := fun d hd => by
    unfold dirsS at hd
    obtain ⟨p, hp, rfl⟩ := List.mem_map.mp hd
    have := mem_idx.mp hp
    exact hsm _ _ (by omega) this.2
  have hLl : (dirsS (s ++ [m])).length ≤ 900 := by
    unfold dirsS
    rw [List.length_map]
    have := pairs_len [] (s ++ [m]).length (by omega)
    have e : (idx (s ++ [m]).length).length = ((List.range (s ++ [m]).length).flatMap fun other => (List.range other).map fun one => Wm.between [] one other).length := by
      unfold idx
      rw [List.length_flatMap, List.length_flatMap]
      congr 1
      apply List.map_congr_left
      intro k _
      rw [List.length_map, List.length_map]
    rw [e]
    omega
  have hLn : (dirsS (s ++ [m])).length = (idx (s ++ [m]).length).length := by unfold dirsS; rw [List.length_map]
  have hfit : fitsB s m = okFrom [] (dirsS (s ++ [m])) := rfl
  rw [hfit]
  generalize hT : s ++ [m] = T at *
  generalize hD : dirsS T = L at *
  apply y_setE1 (r := .dat (.list (T.map eSp)))
  · refine x_op (R := dAdd) (a := .dat (.list (s.map eSp))) (b := .dat (.list [eSp m])) (x_cb (R := fList) (xa_cons (r := .dat (.list (s.map eSp))) ?_ xa_nil) rfl) ?_ ⟨rfl, ?_⟩
    · walk_at "go"
    · walk_at "go"
    · rw [List.length_map]; show _ + 1 ≤ 1000000; omega
  · rw [← hT, List.map_append]; rfl
  refine sv_newLF (ds := []) (by with_reducible exact xd_nil) (by decide) fun p => ?_
  apply y_for (xs := List.range T.length) (enc := fun i => RD.dat (eN i)) (fun i G' M' => M' = [.lst ((L.take (idx i).length).map eD)] ∧ okFrom [] L = okFrom (L.take (idx i).length) (L.drop (idx i).length) ∧ ∃ x y z t, G' = [some (.dat (.list (s.map eSp))), some (.dat (eSp m)), some (.dat (.list (T.map eSp))), some (.raw (.ref p)), x, y, z, t])
  · apply xi_rngN
    · walk_at "go"
    · omega
  · exact ⟨rfl, rfl, none, none, none, none, rfl⟩
  · rintro i x hx G' M' ⟨rfl, hok, g1, g2, g3, g4, rfl⟩
    obtain ⟨rfl, hi⟩ := range_at hx
    apply svt
    · walk_at "go"
    apply y_for (xs := List.range x) (enc := fun i => RD.dat (eN i)) (fun j G' M' => M' = [.lst ((L.take ((idx x).length + j)).map eD)] ∧ okFrom [] L = okFrom (L.take ((idx x).length + j)) (L.drop ((idx x).length + j)) ∧ ∃ y z t, G' = [some (.dat (.list (s.map eSp))), some (.dat (eSp m)), some (.dat (.list (T.map eSp))), some (.raw (.ref p)), some (.dat (eN x)), y, z, t])
    · apply xi_rngN
      · walk_at "go"
      · omega
    · exact ⟨rfl, hok, _, _, _, rfl⟩
    · rintro j y hj G' M' ⟨rfl, hok, g1, g2, g3, rfl⟩
      obtain ⟨rfl, hjx⟩ := range_at hj
      have hat := hL x y hjx hi
      have hlt := (List.getElem?_eq_some_iff.mp hat).1
      have hdrop : L.drop ((idx x).length + y) = farS T y x :: L.drop ((idx x).length + y + 1) := by
        rw [List.drop_eq_getElem_cons hlt]
        congr 1
        exact (List.getElem?_eq_some_iff.mp hat).2
      have htake : L.take ((idx x).length + y + 1) = L.take ((idx x).length + y) ++ [farS T y x] := by
        rw [List.take_add_one, hat]
        rfl
      rw [hdrop, okFrom] at hok
      apply svt
      · walk_at "go"
      apply y_set1 (r := .dat (eD (farS T y x)))
      · walk_at "go"
      apply y_guard (b := decide (farS T y x = (0, 0)))
      · refine xt_test (x_op (R := dEq false) (a := .dat (eD (farS T y x))) (b := .dat (.tuple [.int 0, .int 0])) ?_ ?_ (dEq_dir _)) <;> walk_at "go"
      · intro hb
        rw [if_pos (of_decide_eq_true hb)] at hok
        apply y_ret (r := .dat (.bool false))
        · walk_at "go"
        · exact ⟨[], _, rfl, by rw [hok]⟩
      · intro hb
        rw [if_neg (of_decide_eq_false hb)] at hok
        apply y_guard (b := !((L.take ((idx x).length + y)).filter fun o => decide (Wm.cross (farS T y x) o = 0)).isEmpty)
        · refine et_flat (i := 3) (j := 0) (p := p) (ds := (L.take ((idx x).length + y)).map eD) ?_ rfl rfl rfl
          refine xt_test (x_op (R := dEq true) (a := .dat (.list (((L.take ((idx x).length + y)).filter fun o => decide (Wm.cross (farS T y x) o = 0)).map eD))) (b := .dat (.list [])) ?_ ?_ (dNe_nil 1 ok_D (by decide) _))
          · apply x_lcP (L.take ((idx x).length + y)) (fun o => RD.dat (eD o)) (fun o => decide (Wm.cross (farS T y x) o = 0)) eD
            · apply xi_listE
              walk_at "go"
            · walk_at "go"
            · intro o ho
              have := hLs o (List.mem_of_mem_take ho)
              walk_at "go"
            · intro o ho _
              walk_at "go"
            · rw [List.length_take]; omega
          · walk_at "go"
        · intro hb
          have hne : ¬ ((L.take ((idx x).length + y)).filter fun o => decide (Wm.cross (farS T y x) o = 0)) = [] := fun e => by
            rw [e] at hb; cases hb
          rw [if_neg hne] at hok
          apply y_ret (r := .dat (.bool false))
          · walk_at "go"
          · exact ⟨[], _, rfl, by rw [hok]⟩
        · intro hb
          have hemp : ((L.take ((idx x).length + y)).filter fun o => decide (Wm.cross (farS T y x) o = 0)) = [] := by
            cases hh : ((L.take ((idx x).length + y)).filter fun o => decide (Wm.cross (farS T y x) o = 0)) with
            | nil => rfl
            | cons a l => rw [hh] at hb; cases hb
          rw [if_pos hemp, ← htake] at hok
          apply y_app (j := 0) (p := p) (d := eD (farS T y x))
          · walk_at "go"
          · walk_at "go"
          · rfl
          · rfl
          · rw [List.length_map, List.length_take]; unfold big; omega
          · refine ⟨congrArg (fun z => [Mu.lst z]) ?_, hok, _, _, _, rfl⟩
            show List.map eD _ ++ [eD _] = List.map eD (L.take ((idx x).length + y + 1))
            rw [htake, List.map_append]
            rfl
    · rintro G' M' ⟨rfl, hok, g1, g2, g3, rfl⟩
      rw [List.length_range, ← idx_len] at hok
      rw [List.length_range, ← idx_len]
      exact ⟨rfl, hok, _, _, _, _, rfl⟩
  · rintro G' M' ⟨rfl, hok, g1, g2, g3, g4, rfl⟩
    refine ⟨[], _, rfl, rfl, ?_⟩
    rw [List.length_range, ← hLn, List.drop_length] at hok
    apply y_ret
    · walk_at "go"
    · show _ = Oc.rt (.dat (.bool _)) []
      rw [hok]
      rfl
end
end Wk
end
section
set_option Elab.async false
set_option linter.all false
set_option autoImplicit false
set_option maxRecDepth 100000
set_option maxHeartbeats 4000000
namespace Wk
open PySem L2 Wp Wm
/-! ### the words of the evaluation -/
local macro_rules | `(tactic| walk_at "sd") => `(tactic| first
  | assumption
  | exact trivial
  | exact rfl
  | omega
  | (refine ⟨?_, ?_⟩ <;> (walk_at "sd")))
local macro_rules | `(tactic| walk_at "g1") => `(tactic| first
  | ((with_reducible apply ev_var); exact rfl)
  | with_reducible exact ev_int
  | with_reducible exact ev_str
  | with_reducible exact ev_bl
  | with_reducible exact ev_non
  | with_reducible exact ev_raw
  | exact ev_int
  | with_reducible exact xa_nil
  | with_reducible exact xd_nil
  | with_reducible exact eo_none
  | with_reducible apply x_op
  | with_reducible apply x_cb
  | with_reducible apply x_call
  | with_reducible apply x_tup
  | with_reducible apply x_lst
  | with_reducible apply xa_cons
  | with_reducible apply xd_cons
  | with_reducible apply xo_some
  | with_reducible apply x_un
  | with_reducible apply x_sl
  | with_reducible apply x_if
  | with_reducible apply x_and
  | with_reducible apply x_or
  | with_reducible apply x_not
  | with_reducible apply x_chain
  | with_reducible apply xt_test
  | with_reducible apply xt_B
  | with_reducible apply xt_not
  | with_reducible apply xt_and
  | with_reducible apply xt_or
  | ((with_reducible refine fun _ => ?_); first | with_reducible show EvG _ _ _ _ _ _ _ | with_reducible show EtG _ _ _ _ _ _ _)
  | ((with_reducible refine fun _ _ => ?_); first | with_reducible show TgW _ _ _ _ _ _ | with_reducible show EvG _ _ _ _ _ _ _ | with_reducible show EtG _ _ _ _ _ _ _)
  | exact rfl
  | assumption
  | exact ⟨_, rfl, rfl⟩
  | exact ⟨_, by assumption, rfl⟩
  | exact ⟨trivial, rfl⟩
  | exact Or.inl rfl
  | exact ⟨rfl, rfl, rfl⟩
  | exact ⟨by decide, rfl⟩
  | exact ⟨by assumption, rfl⟩
  | exact ⟨rfl, by assumption⟩
  | exact ⟨rfl, by decide⟩
  | (show List.length _ ≤ 1000; exact Nat.le_of_ble_eq_true rfl)
  | fail "open")
local macro_rules | `(tactic| walk_at "go") => `(tactic| repeat' (walk_at "g1"))
local macro_rules | `(tactic| walk_at "g1") => `(tactic| ((with_reducible apply ix_pin); (try (walk_at "sd"))))
local macro_rules | `(tactic| walk_at "g1") => `(tactic| first
  | with_reducible exact tw_name
  | with_reducible apply tw_tup
  | with_reducible exact tws_nil
  | with_reducible apply tws_cons
  | with_reducible exact tg_name
  | with_reducible apply tg_tup
  | with_reducible exact tgs_nil
  | with_reducible apply tgs_cons
  | with_reducible exact r_all _ _
  | with_reducible exact r_sum _ _
  | with_reducible exact r_len _
  | with_reducible exact r_lenT _)
local macro_rules | `(tactic| walk_at "g1") => `(tactic| first
  | with_reducible exact dEq_wayL _
  | with_reducible exact dEq_wordA _
  | with_reducible exact dEq_wordB _
  | with_reducible exact dEq_int _ _
  | with_reducible exact dNe_int _ _
  | with_reducible exact dEq_bool _ _
  | with_reducible exact r_all2 _ _ _
  | with_reducible exact dIn_nats _ _
  | with_reducible exact dNotIn_nats _ _)
local macro_rules | `(tactic| walk_at "g1") => `(tactic| first
  | ((with_reducible apply dMod_at); (walk_at "sd"))
  | ((with_reducible apply dDiv_at); (walk_at "sd"))
  | ((with_reducible apply dMul_at); (walk_at "sd")))

section
variable {P : Program} {w : World} {K : PySem.W.Frag} {mg : Str → Option Value} {base : Heap}
local macro_rules | `(tactic| walk_at "g1") => `(tactic| ((with_reducible apply r_is_whole); (try (walk_at "sd"))))
local macro_rules | `(tactic| walk_at "g1") => `(tactic| ((with_reducible apply r_is_within); (try (walk_at "sd"))))
local macro_rules | `(tactic| walk_at "g1") => `(tactic| ((with_reducible apply r_is_long); (try (walk_at "sd"))))
local macro_rules | `(tactic| walk_at "g1") => `(tactic| ((with_reducible apply r_rises); (try (walk_at "sd"))))
local macro_rules | `(tactic| walk_at "g1") => `(tactic| ((with_reducible apply r_is_way); (try (walk_at "sd"))))
local macro_rules | `(tactic| walk_at "g1") => `(tactic| ((with_reducible apply r_other_way); (try (walk_at "sd"))))
local macro_rules | `(tactic| walk_at "g1") => `(tactic| ((with_reducible apply r_is_pin_by); (try (walk_at "sd"))))
local macro_rules | `(tactic| walk_at "g1") => `(tactic| ((with_reducible apply r_cross); (try (walk_at "sd"))))
local macro_rules | `(tactic| walk_at "g1") => `(tactic| ((with_reducible apply r_between); (try (walk_at "sd"))))
local macro_rules | `(tactic| walk_at "g1") => `(tactic| ((with_reducible apply r_pairs_of); (try (walk_at "sd"))))
local macro_rules | `(tactic| walk_at "g1") => `(tactic| ((with_reducible apply r_is_board); (try (walk_at "sd"))))
local macro_rules | `(tactic| walk_at "g1") => `(tactic| ((with_reducible apply r_need_board); (try (walk_at "sd"))))
local macro_rules | `(tactic| walk_at "g1") => `(tactic| ((with_reducible apply r_need_pins); (try (walk_at "sd"))))
local macro_rules | `(tactic| walk_at "g1") => `(tactic| ((with_reducible apply r_with_ways_by); (try (walk_at "sd"))))
local macro_rules | `(tactic| walk_at "g1") => `(tactic| ((with_reducible apply r_with_ways); (try (walk_at "sd"))))
local macro_rules | `(tactic| walk_at "g1") => `(tactic| ((with_reducible apply r_mirrored); (try (walk_at "sd"))))
local macro_rules | `(tactic| walk_at "g1") => `(tactic| ((with_reducible apply r_other_word); (try (walk_at "sd"))))
local macro_rules | `(tactic| walk_at "g1") => `(tactic| ((with_reducible apply r_turned_about); (try (walk_at "sd"))))
local macro_rules | `(tactic| walk_at "g1") => `(tactic| ((with_reducible apply r_is_stand_by); (try (walk_at "sd"))))
local macro_rules | `(tactic| walk_at "g1") => `(tactic| ((with_reducible apply r_need_stand); (try (walk_at "sd"))))
local macro_rules | `(tactic| walk_at "g1") => `(tactic| ((with_reducible apply r_look_of); (try (walk_at "sd"))))
local macro_rules | `(tactic| walk_at "g1") => `(tactic| ((with_reducible apply r_met_first); (try (walk_at "sd"))))
local macro_rules | `(tactic| walk_at "g1") => `(tactic| ((with_reducible apply r_beside); (try (walk_at "sd"))))
local macro_rules | `(tactic| walk_at "g1") => `(tactic| ((with_reducible apply r_beat_by); (try (walk_at "sd"))))
local macro_rules | `(tactic| walk_at "g1") => `(tactic| ((with_reducible apply r_beat); (try (walk_at "sd"))))
local macro_rules | `(tactic| walk_at "g1") => `(tactic| ((with_reducible apply r_all_stands); (try (walk_at "sd"))))
local macro_rules | `(tactic| walk_at "g1") => `(tactic| ((with_reducible apply r_need_row); (try (walk_at "sd"))))
local macro_rules | `(tactic| walk_at "g1") => `(tactic| ((with_reducible apply r_need_seen); (try (walk_at "sd"))))
local macro_rules | `(tactic| walk_at "g1") => `(tactic| ((with_reducible apply r_by_ways); (try (walk_at "sd"))))
local macro_rules | `(tactic| walk_at "g1") => `(tactic| ((with_reducible apply r_all_ways); (try (walk_at "sd"))))
local macro_rules | `(tactic| walk_at "g1") => `(tactic| ((with_reducible apply r_end_of); (try (walk_at "sd"))))
local macro_rules | `(tactic| walk_at "g1") => `(tactic| ((with_reducible apply r_stories); (try (walk_at "sd"))))
local macro_rules | `(tactic| walk_at "g1") => `(tactic| ((with_reducible apply r_many_stories); (try (walk_at "sd"))))
local macro_rules | `(tactic| walk_at "g1") => `(tactic| ((with_reducible apply r_some_story); (try (walk_at "sd"))))
local macro_rules | `(tactic| walk_at "g1") => `(tactic| ((with_reducible apply r_is_story); (try (walk_at "sd"))))
local macro_rules | `(tactic| walk_at "g1") => `(tactic| ((with_reducible apply r_next_pins); (try (walk_at "sd"))))
local macro_rules | `(tactic| walk_at "g1") => `(tactic| ((with_reducible apply r_sure_ways); (try (walk_at "sd"))))
local macro_rules | `(tactic| walk_at "g1") => `(tactic| ((with_reducible apply r__law_cell_at); (try (walk_at "sd"))))
local macro_rules | `(tactic| walk_at "g1") => `(tactic| ((with_reducible apply r__law_pen); (try (walk_at "sd"))))
local macro_rules | `(tactic| walk_at "g1") => `(tactic| ((with_reducible apply r__law_draw); (try (walk_at "sd"))))
local macro_rules | `(tactic| walk_at "g1") => `(tactic| ((with_reducible apply r__law_pick); (try (walk_at "sd"))))
local macro_rules | `(tactic| walk_at "g1") => `(tactic| ((with_reducible apply r__law_cross); (try (walk_at "sd"))))
local macro_rules | `(tactic| walk_at "g1") => `(tactic| ((with_reducible apply r__law_far); (try (walk_at "sd"))))
local macro_rules | `(tactic| walk_at "g1") => `(tactic| ((with_reducible apply r__law_fits); (try (walk_at "sd"))))
theorem ev_draw {ps : List Addr} {G : Wp.Env} {M : List Mu} {i j : Nat} {p : Addr} {pen : Pen} {many : Nat} {tn : TE} (h0 : G[i]? = some (some (.raw (.ref p)))) (hp : ps[j]? = some p) (hM : M[j]? = some (.lst (ePen pen))) (hn : EvG K ps tn G M (.dat (eN many)) M) (hok : PenOk pen ∧ 0 < many ∧ many ≤ 1000) :
    EvG K ps (tCall (sp__law_draw K) [] E0 (tCons (tVar i) (tCons tn tNil))) G M (.dat (eN (drawN pen many))) (M.set j (.lst (ePen (drawP pen many)))) :=
  ev_callO (rs := [.dat (eN many)]) (st := ePen pen) (ea_cons (ev_var h0) (ea_cons hn ea_nil)) hp hM (r__law_draw pen many hok)
theorem outs_ways (pen : Pen) : ∀ n, outs (fun i => some (eW (wayOf (drawN (waysRun pen i).1 2)))) n = (waysRun pen n).2.map eW
  | 0 => rfl
  | n + 1 => by
    rw [outs_succ, outs_ways pen n]
    show _ = ((waysRun pen n).2 ++ [wayOf (drawN (waysRun pen n).1 2)]).map eW
    rw [List.map_append]
    rfl
theorem ix_way {n : Nat} (h : n < 2) : dIx (.dat (.list [.str "left", .str "right"])) (.dat (eN n)) (.dat (eW (wayOf n))) := by
  have : n = 0 ∨ n = 1 := by omega
  rcases this with rfl | rfl <;> exact ⟨_, rfl, rfl⟩
def F__law_board : List RD → List PyData → RD → List PyData → Prop := fun aa ss zz s2 => ∃ (pen : Pen) (most : Nat), (PenOk pen ∧ 3 ≤ most ∧ most ≤ 8) ∧ aa = [.dat (eN most)] ∧ ss = ePen pen ∧ zz = .dat (eB (boardOf pen most)) ∧ s2 = ePen (boardPen pen most)
theorem r__law_board (pen : Pen) (most : Nat) (hc : PenOk pen ∧ 3 ≤ most ∧ most ≤ 8) : F__law_board [.dat (eN most)] (ePen pen) (.dat (eB (boardOf pen most))) (ePen (boardPen pen most)) := ⟨pen, most, hc, rfl, rfl, rfl, rfl⟩
abbrev sp__law_board (K : PySem.W.Frag) : Sp := spO K F__law_board
local macro_rules | `(tactic| walk_at "g1") => `(tactic| ((with_reducible apply r__law_board); (try (walk_at "sd"))))
theorem sc__law_board : FnScope ["_law_pen_here", "_law_most", "_law_wide", "_law_many", "_law_spots", "_law_lap", "_law_spot", "_law_all_way", "_law_ways", "_law_way"] ["_law_pen_here", "_law_most"] (defScope s__law_board) := ⟨rfl, rfl, rfl, by decide +kernel, rfl, by decide +kernel, by decide +kernel⟩
-- slots: 0 _law_pen_here, 1 _law_most, 2 _law_wide, 3 _law_many, 4 _law_spots, 5 _law_lap, 6 _law_spot, 7 _law_all_way, 8 _law_ways, 9 _law_way
theorem df__law_board (T : Tx K mg) (df__law_draw : Df P w K mg base "_law_draw" 1 ["_law_pen_here", "_law_many"] (sp__law_draw K)) (df__law_fits : Df P w K mg base "_law_fits" 2 ["_law_pins", "_law_more"] (sp__law_fits K)) : Df P w K mg base "_law_board" 3 ["_law_pen_here", "_law_most"] (sp__law_board K) := by
  obtain ⟨f, fd, hm, F⟩ := T.d__law_board
  refine ⟨f, fd, hm, F.kp, F.binds (ps := ["_law_pen_here", "_law_most"]) (fun _ _ _ _ _ _ us hl => match us, hl with | [_, _], _ => rfl), F.ok sc__law_board (fun vs H Q E h => ?_) (fun cdv A outer s H vs Q E hr h => ?_)⟩
  · obtain ⟨pp, H0, rest, aa, ss, zz, s2, hv, s0, mk, hd, ⟨pen, most, hc, rfl, rfl, rfl, rfl⟩, q⟩ := h
    rw [hv]
    exact congrArg (· + 1) hd.length
  obtain ⟨pp, H0, rest, aa, ss, zz, s2, hv, s0, mk, hd, ⟨pen, most, hc, rfl, rfl, rfl, rfl⟩, q⟩ := h
  refine ⟨_, (pss_cons (ps_par (i := 2) (j := 3) (by rfl) sc__law_board.nd rfl rfl (by decide) rfl rfl (pa_cons (pe_ix (xK ixD (K := K)) (pe_lst (pa_cons pe_int (pa_cons pe_int (pa_cons pe_int (pa_cons pe_int pa_nil))))) (pe_df df__law_draw (hr.mono (by decide)) (by rfl) (pa_cons (pv 0) (pa_cons pe_int pa_nil))) (fun _ _ => rfl)) (pa_cons (pe_op (oK oD_add (K := K)) pe_int (pe_df df__law_draw (hr.mono (by decide)) (by rfl) (pa_cons (pv 0) (pa_cons (pe_op (oK oD_sub (K := K)) (pv 1) pe_int) pa_nil)))) pa_nil)) (by rfl)) (pss_cons (ps_asg (pe_lst pa_nil) (pg_name (i := 4) sc__law_board.nd rfl (by first | exact Or.inl rfl | exact Or.inr rfl))) (pss_cons (ps_for PassesOwn.never rfl (pi_range1 (by rfl) T.z_range (pa_cons pe_int pa_nil)) (pg_name (i := 5) sc__law_board.nd rfl (by first | exact Or.inl rfl | exact Or.inr rfl)) (pss_cons (ps_asg (pe_tup (pa_cons (pe_df df__law_draw (hr.mono (by decide)) (by rfl) (pa_cons (pv 0) (pa_cons (pv 2) pa_nil))) (pa_cons (pe_df df__law_draw (hr.mono (by decide)) (by rfl) (pa_cons (pv 0) (pa_cons (pv 2) pa_nil))) pa_nil))) (pg_name (i := 6) sc__law_board.nd rfl (by first | exact Or.inl rfl | exact Or.inr rfl))) (pss_one (ps_if (PW.pt (pw_and (pt_cmpR (oK oD_lt (K := K)) (pe_callB (cK cD_lenA (K := K) (R' := fLenA P w)) (by rfl) T.z_len (by decide +kernel) (pa_cons (pv 4) pa_nil)) (pv 3) (nomark _)) (pw_and1 (pt_val (pe_df df__law_fits (hr.mono (by decide)) (by rfl) (pa_cons (pv 4) (pa_cons (pv 6) pa_nil))))))) (pss_one (ps_expr (pe_bm PySem.F.plainAttrs_list PySem.F.slot_list_append PySem.F.type_list_append mt_append (pv 4) (pa_cons (pv 6) pa_nil)))) pss_nil)))) (pss_cons (ps_if (pt_cmpR (oK oD_lt (K := K)) (pe_callB (cK cD_lenA (K := K) (R' := fLenA P w)) (by rfl) T.z_len (by decide +kernel) (pa_cons (pv 4) pa_nil)) pe_int (nomark _)) (pss_cons (ps_asg (pe_lst (pa_cons (pe_tup (pa_cons pe_int (pa_cons pe_int pa_nil))) (pa_cons (pe_tup (pa_cons pe_int (pa_cons pe_int pa_nil))) (pa_cons (pe_tup (pa_cons pe_int (pa_cons pe_int pa_nil))) (pa_cons (pe_tup (pa_cons pe_int (pa_cons pe_int pa_nil))) pa_nil))))) (pg_name (i := 4) sc__law_board.nd rfl (by first | exact Or.inl rfl | exact Or.inr rfl))) (pss_one (ps_asg (pe_slice (lK slD (K := K)) (pe_op (oK oD_add (K := K)) (pv 4) (pe_lst (pa_cons (pe_tup (pa_cons pe_int (pa_cons pe_int pa_nil))) (pa_cons (pe_tup (pa_cons pe_int (pa_cons pe_int pa_nil))) (pa_cons (pe_tup (pa_cons pe_int (pa_cons pe_int pa_nil))) (pa_cons (pe_tup (pa_cons pe_int (pa_cons pe_int pa_nil))) pa_nil)))))) po_none (po_some (pv 3))) (pg_name (i := 4) sc__law_board.nd rfl (by first | exact Or.inl rfl | exact Or.inr rfl))))) pss_nil) (pss_cons (ps_asg (pe_df df__law_draw (hr.mono (by decide)) (by rfl) (pa_cons (pv 0) (pa_cons pe_int pa_nil))) (pg_name (i := 7) sc__law_board.nd rfl (by first | exact Or.inl rfl | exact Or.inr rfl))) (pss_cons (ps_setLc (i := 8) (own := [("_law_spot", 6)]) (g := (gName 6)) (tt := tYes) rfl sc__law_board.nd rfl rfl (sw_true rfl rfl rfl (by decide +kernel)) (kSeq (pv 4) (K := K)) (blkOk_by (show blkC ["_law_pen_here", "_law_most", "_law_wide", "_law_many", "_law_spots", "_law_lap", "_law_spot", "_law_all_way", "_law_ways", "_law_way"] (defScope s__law_board) _ _ = true by decide +kernel)) (fun _ _ _ _ _ => (pg_name (i := 6) sc__law_board.nd rfl (by first | exact Or.inl rfl | exact Or.inr rfl))) (fun _ _ _ _ _ => pts_nil) (fun _ _ _ _ _ => (pe_ix (xK ixD (K := K)) (pe_lst (pa_cons pe_str (pa_cons pe_str pa_nil))) (pe_df df__law_draw (hr.mono (by decide)) (by rfl) (pa_cons (pv 0) (pa_cons pe_int pa_nil))) (fun _ _ => rfl)))) (pss_cons (ps_if (pt_cmpR (oK oD_lt (K := K)) (pv 7) pe_int (nomark _)) (pss_one (ps_asg (pe_op (oK oD_mul (K := K)) (pe_lst (pa_cons (pe_ix (xK ixD (K := K)) (pe_lst (pa_cons pe_str (pa_cons pe_str pa_nil))) (pv 7) (fun _ _ => rfl)) pa_nil)) (pe_callB (cK cD_lenA (K := K) (R' := fLenA P w)) (by rfl) T.z_len (by decide +kernel) (pa_cons (pv 4) pa_nil))) (pg_name (i := 8) sc__law_board.nd rfl (by first | exact Or.inl rfl | exact Or.inr rfl)))) pss_nil) (pss_one (ps_ret (pe_callTy (cK cD_tuple (K := K)) (by rfl) T.z_tuple (by decide +kernel) (pa_cons (pe_lc (own := [("_law_spot", 6), ("_law_way", 9)]) (g := (gTup K 2 (gCons (gName 6) (gCons (gName 9) gNil)))) (tt := tYes) rfl sc__law_board.nd (kZip (by rfl) T.z_zip (pa_cons (pv 4) (pa_cons (pv 8) pa_nil)) (ek := rfl) (K := K)) (blkOk_by (show blkC ["_law_pen_here", "_law_most", "_law_wide", "_law_many", "_law_spots", "_law_lap", "_law_spot", "_law_all_way", "_law_ways", "_law_way"] (defScope s__law_board) _ _ = true by decide +kernel)) (fun _ _ _ _ _ => (kTup (K := K) 2 rfl (pgs_cons (pg_name (i := 6) sc__law_board.nd rfl (by first | exact Or.inl rfl | exact Or.inr rfl)) (pgs_cons (pg_name (i := 9) sc__law_board.nd rfl (by first | exact Or.inl rfl | exact Or.inr rfl)) pgs_nil)))) (fun _ _ _ _ _ => pts_nil) (fun _ _ _ _ _ => (pe_op (oK oD_add (K := K)) (pv 6) (pe_tup (pa_cons (pv 9) pa_nil))))) pa_nil))))))))))), ?_⟩
  refine body_endO s0 hv mk hd q ?_
  obtain ⟨h1, h2, h3⟩ := hc
  have hp1 := drawP_ok h1 (many := 4) (by decide)
  have hp2 := drawP_ok hp1 (many := most - 2) (by omega)
  have hw := wide_ok pen
  have hm : 3 ≤ manyOf pen most ∧ manyOf pen most ≤ most := by
    have := drawN_lt (drawP pen 4) (many := most - 2) (by omega)
    unfold manyOf
    omega
  have hs0 : SpotsOk (manyOf pen most) (drawP (drawP pen 4) (most - 2), ([] : Spots)) := ⟨hp2, Nat.zero_le _, (fun _ h => nomatch h), rfl⟩
  have hrun := spotRun_ok hw.1 hw.2 hs0
  refine sv_par1 (M1 := [.lst (ePen (drawP (drawP pen 4) (most - 2)))]) (r := .dat (eN (wideOf pen))) (r' := .dat (eN (manyOf pen most))) (ea_cons (M1 := [.lst (ePen (drawP pen 4))]) (ev_op (F := dIx) (M1 := [.lst (ePen pen)]) (a := .dat (.list (([100, 30, 12, 100] : List Nat).map eN))) (b := .dat (eN (drawN pen 4))) ?_ (ev_draw (ps := [pp]) (j := 0) rfl rfl rfl ?_ ⟨h1, by decide, by decide⟩) ?_) (ea_cons (M1 := [.lst (ePen (drawP (drawP pen 4) (most - 2)))]) (ev_op (F := dAdd) (M1 := [.lst (ePen (drawP pen 4))]) (a := .dat (.int 3)) (b := .dat (eN (drawN (drawP pen 4) (most - 2)))) ?_ (ev_draw (ps := [pp]) (j := 0) rfl rfl rfl ?_ ⟨hp1, by omega, by omega⟩) ?_) ea_nil)) ?_
  · refine ev_is (r := .dat (.list [.int 100, .int 30, .int 12, .int 100])) ?_ rfl
    walk_at "go"
  · walk_at "go"
  · have h4 := drawN_lt pen (many := 4) (by decide)
    refine ⟨_, at_map ?_, rfl⟩
    unfold wideOf
    rw [List.getD_eq_getElem?_getD, List.getElem?_eq_getElem (by show _ < 4; exact h4)]
    rfl
  · walk_at "go"
  · refine ev_is (r := .dat (.int ((most : Int) - 2))) ?_ ?_
    · walk_at "go"
    · show RD.dat _ = RD.dat _
      congr 2
      omega
  · show RD.dat (PyData.int _) = RD.dat (PyData.int _)
    unfold manyOf
    congr 2
  refine sv_newLF (ds := []) (by with_reducible exact xd_nil) (by decide) fun p => ?_
  apply y_for (xs := List.range 30) (enc := fun i => RD.dat (eN i)) (fun i G' M' => M' = [.lst (ePen (spotRun (wideOf pen) (manyOf pen most) (drawP (drawP pen 4) (most - 2), []) i).1), .lst ((spotRun (wideOf pen) (manyOf pen most) (drawP (drawP pen 4) (most - 2), []) i).2.map eSp)] ∧ ∃ x y z u v, G' = [some (.raw (.ref pp)), some (.dat (eN most)), some (.dat (eN (wideOf pen))), some (.dat (eN (manyOf pen most))), some (.raw (.ref p)), x, y, z, u, v])
  · apply xi_rngN
    · walk_at "go"
    · decide
  · exact ⟨rfl, _, _, _, _, _, rfl⟩
  · rintro i x hx G' M' ⟨rfl, g1, g2, g3, g4, g5, rfl⟩
    have hr := hrun i
    have hnext : spotRun (wideOf pen) (manyOf pen most) (drawP (drawP pen 4) (most - 2), []) (i + 1) = spotStep (wideOf pen) (manyOf pen most) (spotRun (wideOf pen) (manyOf pen most) (drawP (drawP pen 4) (most - 2), []) i) := rfl
    rw [hnext]
    generalize spotRun (wideOf pen) (manyOf pen most) (drawP (drawP pen 4) (most - 2), []) i = st at hr
    obtain ⟨q, S⟩ := st
    have hq1 := drawP_ok hr.pen hw.1
    have hl : S.length ≤ manyOf pen most := hr.few
    have n1 := drawN_lt q hw.1
    have n2 := drawN_lt (drawP q (wideOf pen)) hw.1
    apply svt
    · walk_at "go"
    refine sv_set1 (r := .dat (eSp (drawN q (wideOf pen), drawN (drawP q (wideOf pen)) (wideOf pen)))) (M1 := [.lst (ePen (drawP (drawP q (wideOf pen)) (wideOf pen))), .lst (S.map eSp)]) (ev_tup (ea_cons (M1 := [.lst (ePen (drawP q (wideOf pen))), .lst (S.map eSp)]) (ev_draw (ps := [pp, p]) (j := 0) rfl rfl rfl ?_ ⟨hr.pen, hw.1, by omega⟩) (ea_cons (M1 := [.lst (ePen (drawP (drawP q (wideOf pen)) (wideOf pen))), .lst (S.map eSp)]) (ev_draw (ps := [pp, p]) (j := 0) rfl rfl rfl ?_ ⟨hq1, hw.1, by omega⟩) ea_nil)) (Nat.le_of_ble_eq_true rfl)) ?_
    · walk_at "go"
    · walk_at "go"
    apply y_if (b := decide (S.length < manyOf pen most) && fitsB S (drawN q (wideOf pen), drawN (drawP q (wideOf pen)) (wideOf pen)))
    · refine et_flat (i := 4) (j := 1) (p := p) (ds := S.map eSp) ?_ rfl rfl rfl
      refine xt_and (xt_test (x_op (R := dLt) (a := .dat (.int (S.length : Nat))) (b := .dat (eN (manyOf pen most))) ?_ ?_ ⟨trivial, congrArg (fun z => RD.dat (.bool z)) (decide_eq_decide.mpr Int.ofNat_lt).symm⟩)) fun _ => xt_B (x_call (ds := [.dat (.list (S.map eSp)), .dat (eSp (drawN q (wideOf pen), drawN (drawP q (wideOf pen)) (wideOf pen)))]) ?_ (r__law_fits S _ ⟨by omega, ?_⟩))
      · walk_at "go"
      · walk_at "go"
      · walk_at "go"
      · intro z hz
        rcases List.mem_append.mp hz with hz | hz
        · exact hr.at' z hz
        · rw [List.mem_singleton.mp hz]
          simp only
          omega
    · intro hb
      rw [Bool.and_eq_true, decide_eq_true_eq] at hb
      apply y_app (j := 1) (p := p) (ds := S.map eSp) (d := eSp (drawN q (wideOf pen), drawN (drawP q (wideOf pen)) (wideOf pen)))
      · walk_at "go"
      · walk_at "go"
      · rfl
      · rfl
      · rw [List.length_map]; unfold big; omega
      · unfold spotStep
        simp only
        rw [if_pos hb, List.map_append]
        exact ⟨rfl, _, _, _, _, _, rfl⟩
    · intro hb
      have hb' : ¬ (S.length < manyOf pen most ∧ fitsB S (drawN q (wideOf pen), drawN (drawP q (wideOf pen)) (wideOf pen)) = true) := fun c => by
        rw [decide_eq_true c.1, c.2] at hb
        cases hb
      apply sv_nil
      unfold spotStep
      simp only
      rw [if_neg hb']
      exact ⟨rfl, _, _, _, _, _, rfl⟩
  · rintro G' M' ⟨rfl, g1, g2, g3, g4, g5, rfl⟩
    rw [List.length_range]
    have hr := hrun 30
    have hfin : ∀ (S : Spots), (spotsOf pen most) = ((spotRun (wideOf pen) (manyOf pen most) (drawP (drawP pen 4) (most - 2), []) 30).1, S) → S.length ≤ 8 → True := fun _ _ _ => trivial
    have hdef : spotsOf pen most = ((spotRun (wideOf pen) (manyOf pen most) (drawP (drawP pen 4) (most - 2), []) 30).1, if (spotRun (wideOf pen) (manyOf pen most) (drawP (drawP pen 4) (most - 2), []) 30).2.length < 3 then spare.take (manyOf pen most) else (spotRun (wideOf pen) (manyOf pen most) (drawP (drawP pen 4) (most - 2), []) 30).2) := rfl
    have hall := spotsOf_ok h1 h2 h3
    have hbo : boardOf pen most = boardS (spotsOf pen most).2 (if drawN (spotsOf pen most).1 6 < 2 then List.replicate (spotsOf pen most).2.length (wayOf (drawN (spotsOf pen most).1 6)) else (waysRun (drawP (spotsOf pen most).1 6) (spotsOf pen most).2.length).2) := rfl
    have hbp : boardPen pen most = (waysRun (drawP (spotsOf pen most).1 6) (spotsOf pen most).2.length).1 := rfl
    rw [hbo, hbp]
    have e1 : (spotRun (wideOf pen) (manyOf pen most) (drawP (drawP pen 4) (most - 2), []) 30).1 = (spotsOf pen most).1 := rfl
    have e2 : (if (spotRun (wideOf pen) (manyOf pen most) (drawP (drawP pen 4) (most - 2), []) 30).2.length < 3 then spare.take (manyOf pen most) else (spotRun (wideOf pen) (manyOf pen most) (drawP (drawP pen 4) (most - 2), []) 30).2) = (spotsOf pen most).2 := rfl
    rw [e1]
    generalize (spotRun (wideOf pen) (manyOf pen most) (drawP (drawP pen 4) (most - 2), []) 30).2 = S0 at e2
    generalize (spotsOf pen most).1 = q at hall
    generalize (spotsOf pen most).2 = S at hall e2
    obtain ⟨hq, hS3, hSm, -, -⟩ := hall
    refine ⟨[.lst (ePen q)], _, rfl, rfl, ?_⟩
    refine sv_seq (SvP.imp (F := fun o => ∃ a b c d e, o = .nx [some (.raw (.ref pp)), some (.dat (eN most)), some (.dat (eN (wideOf pen))), some (.dat (eN (manyOf pen most))), some (.dat (.list (S.map eSp))), a, b, c, d, e] [.lst (ePen q)]) ?_ ?_)
    · apply y_if (b := decide (S0.length < 3))
      · refine xt_test (x_op (R := dLt) (a := .dat (.int (S0.length : Nat))) (b := .dat (.int 3)) ?_ ?_ ⟨trivial, congrArg (fun z => RD.dat (.bool z)) (decide_eq_decide.mpr (by omega)).symm⟩) <;> walk_at "go"
      · intro hb
        rw [if_pos (of_decide_eq_true hb)] at e2
        apply y_set1 (r := .dat (.list ((spare.take 4).map eSp)))
        · refine ev_is (r := .dat (.list [.tuple [.int 28, .int 35], .tuple [.int 29, .int 28], .tuple [.int 32, .int 37], .tuple [.int 12, .int 11]])) ?_ rfl
          walk_at "go"
        apply y_set (r := .dat (.list (S.map eSp)))
        · refine ev_is (r := .dat (.list (cutD (spare.map eSp) none (some (manyOf pen most : Nat))))) ?_ ?_
          · refine x_sl (R := dSl) (a := .dat (.list (spare.map eSp))) (u := some ((manyOf pen most : Nat) : Int)) (x_op (R := dAdd) (a := .dat (.list ((spare.take 4).map eSp))) (b := .dat (.list [.tuple [.int 32, .int 30], .tuple [.int 39, .int 11], .tuple [.int 19, .int 9], .tuple [.int 5, .int 34]])) ?_ ?_ ⟨rfl, by show _ ≤ 1000000; exact Nat.le_of_ble_eq_true rfl⟩) ?_ ?_ rfl
            · walk_at "go"
            · walk_at "go"
            · walk_at "go"
            · refine xo_some ?_
              walk_at "go"
          · rw [cut_upto, ← e2, List.map_take]
        · exact ⟨_, _, _, _, _, rfl⟩
      · intro hb
        rw [if_neg (of_decide_eq_false hb)] at e2
        apply sv_nil
        rw [← e2]
        exact ⟨_, _, _, _, _, rfl⟩
    · rintro _ ⟨a, b, c, d, e, rfl⟩
      show SvP K [pp] _ _ _ _
      have hq1 := drawP_ok hq (many := 6) (by decide)
      have hw2 := waysRun_ok hq1
      refine sv_set1 (r := .dat (eN (drawN q 6))) (M1 := [.lst (ePen (drawP q 6))]) (ev_draw (ps := [pp]) (j := 0) rfl rfl rfl ?_ ⟨hq, by decide, by decide⟩) ?_
      · walk_at "go"
      refine sv_set1 (r := .dat (.list ((waysRun (drawP q 6) S.length).2.map eW))) (M1 := [.lst (ePen (waysRun (drawP q 6) S.length).1)]) ?_ ?_
      · have hiv : IvG K [pp] (iSeq K (tVar 4)) (([some (.raw (.ref pp)), some (.dat (eN most)), some (.dat (eN (wideOf pen))), some (.dat (eN (manyOf pen most))), some (.dat (.list (S.map eSp))), a, b, c, d, e] : Wp.Env).set 7 (some (.dat (eN (drawN q 6))))) [.lst (ePen (drawP q 6))] (S.map fun x => RD.dat (eSp x)) [.lst (ePen (drawP q 6))] := by
          apply xi_listE
          walk_at "go"
        have := ev_lc (K := K) (ps := [pp]) (g := gName 6) (tt := tYes) (te := tOp (rD2 K dIx) (tLst (tCons (tC (.str "left")) (tCons (tC (.str "right")) tNil))) (tCall (sp__law_draw K) [] E0 (tCons (tVar 0) (tCons (tC (.int 2)) tNil)))) (vs := [6]) hiv (fun i => [Mu.lst (ePen (waysRun (drawP q 6) i).1)]) (fun i => some (eW (wayOf (drawN (waysRun (drawP q 6) i).1 2)))) rfl ?_ ?_
        · rw [List.length_map, outs_ways] at this
          exact this
        · intro i r hi
          refine ⟨_, tw_name (by decide), true, _, et_yes, fun _ => ⟨_, rfl, ?_⟩, fun h => nomatch h⟩
          have hd2 := drawN_lt (waysRun (drawP q 6) i).1 (many := 2) (by decide)
          refine ev_op (F := dIx) (M1 := [.lst (ePen (waysRun (drawP q 6) i).1)]) (a := .dat (.list [.str "left", .str "right"])) (b := .dat (eN (drawN (waysRun (drawP q 6) i).1 2))) ?_ (ev_draw (ps := [pp]) (j := 0) rfl rfl rfl ?_ ⟨hw2 i, by decide, by decide⟩) (ix_way hd2)
          · walk_at "go"
          · walk_at "go"
        · rw [List.length_map]; omega
      refine sv_seq (SvP.imp (F := fun o => ∃ a b c d, o = .nx [some (.raw (.ref pp)), some (.dat (eN most)), some (.dat (eN (wideOf pen))), some (.dat (eN (manyOf pen most))), some (.dat (.list (S.map eSp))), a, b, c, some (.dat (.list ((if drawN q 6 < 2 then List.replicate S.length (wayOf (drawN q 6)) else (waysRun (drawP q 6) S.length).2).map eW))), d] [.lst (ePen (waysRun (drawP q 6) S.length).1)]) ?_ ?_)
      · apply y_if (b := decide (drawN q 6 < 2))
        · refine xt_test (x_op (R := dLt) (a := .dat (eN (drawN q 6))) (b := .dat (.int 2)) ?_ ?_ ⟨trivial, congrArg (fun z => RD.dat (.bool z)) (decide_eq_decide.mpr (by omega)).symm⟩) <;> walk_at "go"
        · intro hb
          have hb' := of_decide_eq_true hb
          rw [if_pos hb']
          apply y_set (r := .dat (.list ((List.replicate S.length (wayOf (drawN q 6))).map eW)))
          · refine x_op (R := dMul) (a := .dat (.list [eW (wayOf (drawN q 6))])) (b := .dat (.int (S.length : Nat))) (x_lst (ds := [eW (wayOf (drawN q 6))]) (xd_cons (x_op (R := dIx) (a := .dat (.list [.str "left", .str "right"])) (b := .dat (eN (drawN q 6))) ?_ ?_ (ix_way hb')) xd_nil) (Nat.le_of_ble_eq_true rfl)) ?_ ⟨?_, by omega, by omega, by show 1 ≤ 1000; decide⟩
            · walk_at "go"
            · walk_at "go"
            · walk_at "go"
            · rw [Int.toNat_natCast, List.map_replicate]
              congr 2
              generalize S.length = n
              induction n with
              | zero => rfl
              | succ n ih => rw [List.replicate_succ, List.replicate_succ, List.flatten_cons, ih]; rfl
          · exact ⟨_, _, _, _, rfl⟩
        · intro hb
          rw [if_neg (of_decide_eq_false hb)]
          apply sv_nil
          exact ⟨_, _, _, _, rfl⟩
      · rintro _ ⟨a, b, c, d, rfl⟩
        show SvP K [pp] _ _ _ _
        generalize (if drawN q 6 < 2 then List.replicate S.length (wayOf (drawN q 6)) else (waysRun (drawP q 6) S.length).2) = W
        refine y_retE (r0 := .dat (.tuple ((S.zip W).map fun p => eP ⟨p.1.1, p.1.2, p.2⟩))) ?_ ?_ rfl
        · refine x_cb (R := fTuple) (xa_cons (r := .dat (.list ((S.zip W).map fun (p : (Nat × Nat) × Way) => eP ⟨p.1.1, p.1.2, p.2⟩))) ?_ xa_nil) rfl
          apply x_lcM (S.zip W) (fun p => RD.dat (.tuple [eSp p.1, eW p.2])) (fun (p : (Nat × Nat) × Way) => eP ⟨p.1.1, p.1.2, p.2⟩)
          · apply xi_zipL
            walk_at "go"
          · walk_at "go"
          · intro x hx
            refine x_op (R := dAdd) (a := .dat (eSp x.1)) (b := .dat (.tuple [eW x.2])) ?_ ?_ ⟨rfl, by show _ ≤ 1000000; exact Nat.le_of_ble_eq_true rfl⟩ <;> walk_at "go"
          · rw [List.length_zip]; omega
        · refine congrArg (fun z => RD.dat (.tuple z)) (a₂ := (boardS S W).map eP) ?_
          unfold boardS
          rw [List.map_map]
          rfl
end
end Wk
end
section
set_option Elab.async false
set_option linter.all false
set_option autoImplicit false
set_option maxRecDepth 100000
set_option maxHeartbeats 4000000
namespace Wk
open PySem L2 Wp Wm
/-! ### the words of the evaluation -/
local macro_rules | `(tactic| walk_at "sd") => `(tactic| first
  | assumption
  | exact trivial
  | exact rfl
  | omega
  | (refine ⟨?_, ?_⟩ <;> (walk_at "sd")))
local macro_rules | `(tactic| walk_at "g1") => `(tactic| first
  | ((with_reducible apply ev_var); exact rfl)
  | with_reducible exact ev_int
  | with_reducible exact ev_str
  | with_reducible exact ev_bl
  | with_reducible exact ev_non
  | with_reducible exact ev_raw
  | exact ev_int
  | with_reducible exact xa_nil
  | with_reducible exact xd_nil
  | with_reducible exact eo_none
  | with_reducible apply x_op
  | with_reducible apply x_cb
  | with_reducible apply x_call
  | with_reducible apply x_tup
  | with_reducible apply x_lst
  | with_reducible apply xa_cons
  | with_reducible apply xd_cons
  | with_reducible apply xo_some
  | with_reducible apply x_un
  | with_reducible apply x_sl
  | with_reducible apply x_if
  | with_reducible apply x_and
  | with_reducible apply x_or
  | with_reducible apply x_not
  | with_reducible apply x_chain
  | with_reducible apply xt_test
  | with_reducible apply xt_B
  | with_reducible apply xt_not
  | with_reducible apply xt_and
  | with_reducible apply xt_or
  | ((with_reducible refine fun _ => ?_); first | with_reducible show EvG _ _ _ _ _ _ _ | with_reducible show EtG _ _ _ _ _ _ _)
  | ((with_reducible refine fun _ _ => ?_); first | with_reducible show TgW _ _ _ _ _ _ | with_reducible show EvG _ _ _ _ _ _ _ | with_reducible show EtG _ _ _ _ _ _ _)
  | exact rfl
  | assumption
  | exact ⟨_, rfl, rfl⟩
  | exact ⟨_, by assumption, rfl⟩
  | exact ⟨trivial, rfl⟩
  | exact Or.inl rfl
  | exact ⟨rfl, rfl, rfl⟩
  | exact ⟨by decide, rfl⟩
  | exact ⟨by assumption, rfl⟩
  | exact ⟨rfl, by assumption⟩
  | exact ⟨rfl, by decide⟩
  | (show List.length _ ≤ 1000; exact Nat.le_of_ble_eq_true rfl)
  | fail "open")
local macro_rules | `(tactic| walk_at "go") => `(tactic| repeat' (walk_at "g1"))
local macro_rules | `(tactic| walk_at "g1") => `(tactic| ((with_reducible apply ix_pin); (try (walk_at "sd"))))
local macro_rules | `(tactic| walk_at "g1") => `(tactic| first
  | with_reducible exact tw_name
  | with_reducible apply tw_tup
  | with_reducible exact tws_nil
  | with_reducible apply tws_cons
  | with_reducible exact tg_name
  | with_reducible apply tg_tup
  | with_reducible exact tgs_nil
  | with_reducible apply tgs_cons
  | with_reducible exact r_all _ _
  | with_reducible exact r_sum _ _
  | with_reducible exact r_len _
  | with_reducible exact r_lenT _)
local macro_rules | `(tactic| walk_at "g1") => `(tactic| first
  | with_reducible exact dEq_wayL _
  | with_reducible exact dEq_wordA _
  | with_reducible exact dEq_wordB _
  | with_reducible exact dEq_int _ _
  | with_reducible exact dNe_int _ _
  | with_reducible exact dEq_bool _ _
  | with_reducible exact r_all2 _ _ _
  | with_reducible exact dIn_nats _ _
  | with_reducible exact dNotIn_nats _ _)
local macro_rules | `(tactic| walk_at "g1") => `(tactic| first
  | ((with_reducible apply dMod_at); (walk_at "sd"))
  | ((with_reducible apply dDiv_at); (walk_at "sd"))
  | ((with_reducible apply dMul_at); (walk_at "sd")))

section
variable {P : Program} {w : World} {K : PySem.W.Frag} {mg : Str → Option Value} {base : Heap}
local macro_rules | `(tactic| walk_at "g1") => `(tactic| ((with_reducible apply r_is_whole); (try (walk_at "sd"))))
local macro_rules | `(tactic| walk_at "g1") => `(tactic| ((with_reducible apply r_is_within); (try (walk_at "sd"))))
local macro_rules | `(tactic| walk_at "g1") => `(tactic| ((with_reducible apply r_is_long); (try (walk_at "sd"))))
local macro_rules | `(tactic| walk_at "g1") => `(tactic| ((with_reducible apply r_rises); (try (walk_at "sd"))))
local macro_rules | `(tactic| walk_at "g1") => `(tactic| ((with_reducible apply r_is_way); (try (walk_at "sd"))))
local macro_rules | `(tactic| walk_at "g1") => `(tactic| ((with_reducible apply r_other_way); (try (walk_at "sd"))))
local macro_rules | `(tactic| walk_at "g1") => `(tactic| ((with_reducible apply r_is_pin_by); (try (walk_at "sd"))))
local macro_rules | `(tactic| walk_at "g1") => `(tactic| ((with_reducible apply r_cross); (try (walk_at "sd"))))
local macro_rules | `(tactic| walk_at "g1") => `(tactic| ((with_reducible apply r_between); (try (walk_at "sd"))))
local macro_rules | `(tactic| walk_at "g1") => `(tactic| ((with_reducible apply r_pairs_of); (try (walk_at "sd"))))
local macro_rules | `(tactic| walk_at "g1") => `(tactic| ((with_reducible apply r_is_board); (try (walk_at "sd"))))
local macro_rules | `(tactic| walk_at "g1") => `(tactic| ((with_reducible apply r_need_board); (try (walk_at "sd"))))
local macro_rules | `(tactic| walk_at "g1") => `(tactic| ((with_reducible apply r_need_pins); (try (walk_at "sd"))))
local macro_rules | `(tactic| walk_at "g1") => `(tactic| ((with_reducible apply r_with_ways_by); (try (walk_at "sd"))))
local macro_rules | `(tactic| walk_at "g1") => `(tactic| ((with_reducible apply r_with_ways); (try (walk_at "sd"))))
local macro_rules | `(tactic| walk_at "g1") => `(tactic| ((with_reducible apply r_mirrored); (try (walk_at "sd"))))
local macro_rules | `(tactic| walk_at "g1") => `(tactic| ((with_reducible apply r_other_word); (try (walk_at "sd"))))
local macro_rules | `(tactic| walk_at "g1") => `(tactic| ((with_reducible apply r_turned_about); (try (walk_at "sd"))))
local macro_rules | `(tactic| walk_at "g1") => `(tactic| ((with_reducible apply r_is_stand_by); (try (walk_at "sd"))))
local macro_rules | `(tactic| walk_at "g1") => `(tactic| ((with_reducible apply r_need_stand); (try (walk_at "sd"))))
local macro_rules | `(tactic| walk_at "g1") => `(tactic| ((with_reducible apply r_look_of); (try (walk_at "sd"))))
local macro_rules | `(tactic| walk_at "g1") => `(tactic| ((with_reducible apply r_met_first); (try (walk_at "sd"))))
local macro_rules | `(tactic| walk_at "g1") => `(tactic| ((with_reducible apply r_beside); (try (walk_at "sd"))))
local macro_rules | `(tactic| walk_at "g1") => `(tactic| ((with_reducible apply r_beat_by); (try (walk_at "sd"))))
local macro_rules | `(tactic| walk_at "g1") => `(tactic| ((with_reducible apply r_beat); (try (walk_at "sd"))))
local macro_rules | `(tactic| walk_at "g1") => `(tactic| ((with_reducible apply r_all_stands); (try (walk_at "sd"))))
local macro_rules | `(tactic| walk_at "g1") => `(tactic| ((with_reducible apply r_need_row); (try (walk_at "sd"))))
local macro_rules | `(tactic| walk_at "g1") => `(tactic| ((with_reducible apply r_need_seen); (try (walk_at "sd"))))
local macro_rules | `(tactic| walk_at "g1") => `(tactic| ((with_reducible apply r_by_ways); (try (walk_at "sd"))))
local macro_rules | `(tactic| walk_at "g1") => `(tactic| ((with_reducible apply r_all_ways); (try (walk_at "sd"))))
local macro_rules | `(tactic| walk_at "g1") => `(tactic| ((with_reducible apply r_end_of); (try (walk_at "sd"))))
local macro_rules | `(tactic| walk_at "g1") => `(tactic| ((with_reducible apply r_stories); (try (walk_at "sd"))))
local macro_rules | `(tactic| walk_at "g1") => `(tactic| ((with_reducible apply r_many_stories); (try (walk_at "sd"))))
local macro_rules | `(tactic| walk_at "g1") => `(tactic| ((with_reducible apply r_some_story); (try (walk_at "sd"))))
local macro_rules | `(tactic| walk_at "g1") => `(tactic| ((with_reducible apply r_is_story); (try (walk_at "sd"))))
local macro_rules | `(tactic| walk_at "g1") => `(tactic| ((with_reducible apply r_next_pins); (try (walk_at "sd"))))
local macro_rules | `(tactic| walk_at "g1") => `(tactic| ((with_reducible apply r_sure_ways); (try (walk_at "sd"))))
local macro_rules | `(tactic| walk_at "g1") => `(tactic| ((with_reducible apply r__law_cell_at); (try (walk_at "sd"))))
local macro_rules | `(tactic| walk_at "g1") => `(tactic| ((with_reducible apply r__law_pen); (try (walk_at "sd"))))
local macro_rules | `(tactic| walk_at "g1") => `(tactic| ((with_reducible apply r__law_draw); (try (walk_at "sd"))))
local macro_rules | `(tactic| walk_at "g1") => `(tactic| ((with_reducible apply r__law_pick); (try (walk_at "sd"))))
local macro_rules | `(tactic| walk_at "g1") => `(tactic| ((with_reducible apply r__law_cross); (try (walk_at "sd"))))
local macro_rules | `(tactic| walk_at "g1") => `(tactic| ((with_reducible apply r__law_far); (try (walk_at "sd"))))
local macro_rules | `(tactic| walk_at "g1") => `(tactic| ((with_reducible apply r__law_fits); (try (walk_at "sd"))))
local macro_rules | `(tactic| walk_at "g1") => `(tactic| ((with_reducible apply r__law_board); (try (walk_at "sd"))))
def F__law_stands : List RD → RD → Prop := fun aa zz => ∃ (b : Board), (b.length ≤ 8) ∧ aa = [.dat (eB b)] ∧ zz = .dat (.list ((allStands b).map eS))
theorem r__law_stands (b : Board) (hc : b.length ≤ 8) : F__law_stands [.dat (eB b)] (.dat (.list ((allStands b).map eS))) := ⟨b, hc, rfl, rfl⟩
abbrev sp__law_stands (K : PySem.W.Frag) : Sp := spD K F__law_stands
local macro_rules | `(tactic| walk_at "g1") => `(tactic| ((with_reducible apply r__law_stands); (try (walk_at "sd"))))
theorem sc__law_stands : FnScope ["_law_board_here", "_law_found", "_law_own", "_law_last"] ["_law_board_here"] (defScope s__law_stands) := ⟨rfl, rfl, rfl, by decide +kernel, rfl, by decide +kernel, by decide +kernel⟩
-- slots: 0 _law_board_here, 1 _law_found, 2 _law_own, 3 _law_last
theorem df__law_stands (T : Tx K mg) : Df P w K mg base "_law_stands" 1 ["_law_board_here"] (sp__law_stands K) := by
  obtain ⟨f, fd, hm, F⟩ := T.d__law_stands
  refine ⟨f, fd, hm, F.kp, F.binds (ps := ["_law_board_here"]) (fun _ _ _ _ _ _ us hl => match us, hl with | [_], _ => rfl), F.ok sc__law_stands (fun vs H Q E h => ?_) (fun cdv A outer s H vs Q E hr h => ?_)⟩
  · obtain ⟨H0, aa, zz, s0, hd, ⟨b, hc, rfl, rfl⟩, q⟩ := h
    exact hd.length
  obtain ⟨H0, aa, zz, s0, hd, ⟨b, hc, rfl, rfl⟩, q⟩ := h
  refine ⟨_, (pss_cons (ps_asg (pe_lst pa_nil) (pg_name (i := 1) sc__law_stands.nd rfl (by first | exact Or.inl rfl | exact Or.inr rfl))) (pss_cons (ps_for PassesOwn.never rfl (pi_range1 (by rfl) T.z_range (pa_cons (pe_callB (cK cD_lenA (K := K) (R' := fLenA P w)) (by rfl) T.z_len (by decide +kernel) (pa_cons (pv 0) pa_nil)) pa_nil)) (pg_name (i := 2) sc__law_stands.nd rfl (by first | exact Or.inl rfl | exact Or.inr rfl)) (pss_one (ps_for PassesOwn.never rfl (kSeq (pe_lc (own := [("_law_last", 3)]) (g := (gName 3)) rfl sc__law_stands.nd (pi_range1 (by rfl) T.z_range (pa_cons (pe_callB (cK cD_lenA (K := K) (R' := fLenA P w)) (by rfl) T.z_len (by decide +kernel) (pa_cons (pv 0) pa_nil)) pa_nil)) (blkOk_by (show blkC ["_law_board_here", "_law_found", "_law_own", "_law_last"] (defScope s__law_stands) _ _ = true by decide +kernel)) (fun _ _ _ _ _ => (pg_name (i := 3) sc__law_stands.nd rfl (by first | exact Or.inl rfl | exact Or.inr rfl))) (fun _ _ _ _ _ => (pts_one (pt_cmpR (oK (oD_ne hr.units) (K := K)) (pv 3) (pv 2) (nomark _)))) (fun _ _ _ _ _ => (pv 3))) (K := K)) (pg_name (i := 3) sc__law_stands.nd rfl (by first | exact Or.inl rfl | exact Or.inr rfl)) (pss_one (ps_asg (pe_op (oK oD_add (K := K)) (pv 1) (pe_lst (pa_cons (pe_tup (pa_cons (pv 2) (pa_cons (pv 3) (pa_cons pe_str pa_nil)))) (pa_cons (pe_tup (pa_cons (pv 2) (pa_cons (pv 3) (pa_cons pe_str pa_nil)))) pa_nil)))) (pg_name (i := 1) sc__law_stands.nd rfl (by first | exact Or.inl rfl | exact Or.inr rfl))))))) (pss_one (ps_ret (pv 1))))), ?_⟩
  refine body_end s0 hd q ?_
  have hin : ∀ (own : Nat) (l : List Nat), (l.flatMap fun last => [Stand.mk own last .ahead, ⟨own, last, .behind⟩]).length = l.length * 2 := by
    intro own l
    induction l with
    | nil => rfl
    | cons a l ih => rw [List.flatMap_cons, List.length_append, ih, List.length_cons]; simp; omega
  have hfl : ∀ own : Nat, ((List.range b.length).filter fun last => last != own).length ≤ 8 := fun own => Nat.le_trans (List.length_filter_le _ _) (by rw [List.length_range]; exact hc)
  have hout : ∀ i, i ≤ 8 → ((List.range i).flatMap fun own => ((List.range b.length).filter fun last => last != own).flatMap fun last => [Stand.mk own last .ahead, ⟨own, last, .behind⟩]).length ≤ 128 := fun i hi => by
    refine Nat.le_trans (flat_few 16 _ _ fun own _ => ?_) ?_
    · rw [hin]; have := hfl own; omega
    · rw [List.length_range]; omega
  apply y_set1 (r := .dat (.list []))
  · walk_at "go"
  apply y_for1 (xs := List.range b.length) (enc := fun i => RD.dat (eN i)) (fun i G' M' => M' = [] ∧ ∃ x y, G' = [some (.dat (eB b)), some (.dat (.list (((List.range i).flatMap fun own => ((List.range b.length).filter fun last => last != own).flatMap fun last => [Stand.mk own last .ahead, ⟨own, last, .behind⟩]).map eS))), x, y])
  · apply xi_rngN
    · walk_at "go"
    · omega
  · exact ⟨rfl, none, none, rfl⟩
  · rintro i x hx G' M' ⟨rfl, y, z, rfl⟩
    obtain ⟨rfl, hi⟩ := range_at hx
    apply svt
    · walk_at "go"
    have e : ((List.range b.length).filter fun last => last != x) = (List.range b.length).filter fun (last : Nat) => !decide ((last : Int) = (x : Int)) := by
      apply List.filter_congr
      intro q _
      by_cases h : q = x
      · simp [h]
      · have : ¬ (q : Int) = x := by omega
        simp [h, this]
    apply y_for (xs := (List.range b.length).filter fun last => last != x) (enc := fun i => RD.dat (eN i)) (fun j G' M' => M' = [] ∧ ∃ y, G' = [some (.dat (eB b)), some (.dat (.list ((((List.range x).flatMap fun own => ((List.range b.length).filter fun last => last != own).flatMap fun last => [Stand.mk own last .ahead, ⟨own, last, .behind⟩]) ++ ((((List.range b.length).filter fun last => last != x).take j).flatMap fun last => [Stand.mk x last .ahead, ⟨x, last, .behind⟩])).map eS))), some (.dat (eN x)), y])
    · rw [e]
      apply xi_listE
      apply x_lcP (List.range b.length) (fun i => RD.dat (eN i)) (fun last => !decide ((last : Int) = (x : Int))) eN
      · apply xi_rngN
        · walk_at "go"
        · omega
      · walk_at "go"
      · intro q hq
        walk_at "go"
      · intro q hq _
        walk_at "go"
      · rw [List.length_range]; omega
    · refine ⟨rfl, z, ?_⟩
      rw [List.take_zero, List.flatMap_nil, List.append_nil]
      rfl
    · rintro j last hl G' M' ⟨rfl, y, rfl⟩
      apply svt
      · walk_at "go"
      refine sv_set (M1 := []) (x_op (R := dAdd) (a := .dat (.list ((((List.range x).flatMap fun own => ((List.range b.length).filter fun last => last != own).flatMap fun last => [Stand.mk own last .ahead, ⟨own, last, .behind⟩]) ++ ((((List.range b.length).filter fun last => last != x).take j).flatMap fun last => [Stand.mk x last .ahead, ⟨x, last, .behind⟩])).map eS))) (b := .dat (.list [.tuple [eN x, eN last, .str "ahead"], .tuple [eN x, eN last, .str "behind"]])) ?_ ?_ ⟨rfl, ?_⟩) ?_
      · walk_at "go"
      · walk_at "go"
      · rw [List.length_map, List.length_append, hin, List.length_take]
        have h1 := hout x (by omega)
        have h2 := hfl x
        show _ + 2 ≤ _
        unfold big
        omega
      · refine ⟨rfl, some (.dat (eN last)), congrArg (fun z => [some (RD.dat (eB b)), some (.dat (.list z)), some (.dat (eN x)), some (.dat (eN last))]) ?_⟩
        rw [List.take_add_one, hl]
        simp only [List.flatMap_append, List.map_append, List.append_assoc]
        rfl
    · rintro G' M' ⟨rfl, y, rfl⟩
      refine ⟨rfl, some (.dat (eN x)), y, ?_⟩
      rw [List.take_length, List.range_succ, List.flatMap_append, List.flatMap_cons, List.flatMap_nil, List.append_nil]
  · rintro G' M' ⟨rfl, y, z, rfl⟩
    apply y_ret
    · walk_at "go"
    · rw [List.length_range]
      rfl
theorem ix_other (w : Way) : dIx (.dat (.list [.str "left", .str "right"])) (.dat (.int (if decide (w = .left) = true then 1 else 0))) (.dat (eW w.flip)) := by cases w <;> exact ⟨_, rfl, rfl⟩
def F__law_turned_ways : List RD → RD → Prop := fun aa zz => ∃ (l : List (Option Way)), (l.length ≤ 100) ∧ aa = [.dat (.tuple (l.map eWO))] ∧ zz = .dat (.tuple ((l.map fun (o : Option Way) => o.map Way.flip).map eWO))
theorem r__law_turned_ways (l : List (Option Way)) (hc : l.length ≤ 100) : F__law_turned_ways [.dat (.tuple (l.map eWO))] (.dat (.tuple ((l.map fun (o : Option Way) => o.map Way.flip).map eWO))) := ⟨l, hc, rfl, rfl⟩
abbrev sp__law_turned_ways (K : PySem.W.Frag) : Sp := spD K F__law_turned_ways
local macro_rules | `(tactic| walk_at "g1") => `(tactic| ((with_reducible apply r__law_turned_ways); (try (walk_at "sd"))))
theorem sc__law_turned_ways : FnScope ["_law_ways", "_law_way"] ["_law_ways"] (defScope s__law_turned_ways) := ⟨rfl, rfl, rfl, by decide +kernel, rfl, by decide +kernel, by decide +kernel⟩
-- slots: 0 _law_ways, 1 _law_way
theorem df__law_turned_ways (T : Tx K mg) : Df P w K mg base "_law_turned_ways" 1 ["_law_ways"] (sp__law_turned_ways K) := by
  obtain ⟨f, fd, hm, F⟩ := T.d__law_turned_ways
  refine ⟨f, fd, hm, F.kp, F.binds (ps := ["_law_ways"]) (fun _ _ _ _ _ _ us hl => match us, hl with | [_], _ => rfl), F.ok sc__law_turned_ways (fun vs H Q E h => ?_) (fun cdv A outer s H vs Q E hr h => ?_)⟩
  · obtain ⟨H0, aa, zz, s0, hd, ⟨l, hc, rfl, rfl⟩, q⟩ := h
    exact hd.length
  obtain ⟨H0, aa, zz, s0, hd, ⟨l, hc, rfl, rfl⟩, q⟩ := h
  refine ⟨_, (pss_one (ps_ret (pe_callTy (cK cD_tuple (K := K)) (by rfl) T.z_tuple (by decide +kernel) (pa_cons (pe_lc (own := [("_law_way", 1)]) (g := (gName 1)) (tt := tYes) rfl sc__law_turned_ways.nd (kSeq (pv 0) (K := K)) (blkOk_by (show blkC ["_law_ways", "_law_way"] (defScope s__law_turned_ways) _ _ = true by decide +kernel)) (fun _ _ _ _ _ => (pg_name (i := 1) sc__law_turned_ways.nd rfl (by first | exact Or.inl rfl | exact Or.inr rfl))) (fun _ _ _ _ _ => pts_nil) (fun _ _ _ _ _ => (pe_ifExp (pt_cmpR (oK oD_is (K := K)) (pv 1) pe_non (nomark _)) pe_non (pe_ix (xK ixD (K := K)) (pe_lst (pa_cons pe_str (pa_cons pe_str pa_nil))) (pe_callTy (cK cD_int (K := K)) (by rfl) T.z_int (by decide +kernel) (pa_cons (pe_cmpR (oK (oD_eq hr.units) (K := K)) (pv 1) pe_str (nomark _)) pa_nil)) (fun _ _ => rfl))))) pa_nil)))), ?_⟩
  refine body_end s0 hd q ?_
  refine y_ret (r := .dat (.tuple ((l.map fun (o : Option Way) => o.map Way.flip).map eWO))) ?_ rfl
  refine x_cb (R := fTuple) (xa_cons (r := .dat (.list ((l.map fun (o : Option Way) => o.map Way.flip).map eWO))) ?_ xa_nil) rfl
  rw [List.map_map]
  apply x_lcM l (fun o => RD.dat (eWO o)) (eWO ∘ fun o => o.map Way.flip)
  · apply xi_tupE
    walk_at "go"
  · walk_at "go"
  · intro o ho
    cases o with
    | none =>
      refine x_ifT (xt_test (x_op (R := dIs false) (a := .dat .none) (b := .dat .none) ?_ ?_ rfl)) ?_
      · walk_at "go"
      · walk_at "go"
      · show EvG _ _ _ _ _ (.dat .none) _
        walk_at "go"
    | some w =>
      refine x_ifF (xt_test (x_op (R := dIs false) (a := .dat (eW w)) (b := .dat .none) ?_ ?_ rfl)) ?_
      · walk_at "go"
      · walk_at "go"
      · refine x_op (R := dIx) (a := .dat (.list [.str "left", .str "right"])) (b := .dat (.int (if decide (w = .left) = true then 1 else 0))) ?_ (x_cb (R := fInt) (xa_cons (r := .dat (.bool (decide (w = .left)))) (x_op (R := dEq false) (a := .dat (eW w)) (b := .dat (.str "left")) (ev_var rfl) ?_ (dEq_wayL w)) xa_nil) rfl) (ix_other w)
        · walk_at "go"
        · walk_at "go"
  · omega
theorem ev_pick {ps : List Addr} {G : Wp.Env} {M : List Mu} {i j : Nat} {p : Addr} {pen : Pen} {ds : List PyData} {d : PyData} {tn : TE} (h0 : G[i]? = some (some (.raw (.ref p)))) (hp : ps[j]? = some p) (hM : M[j]? = some (.lst (ePen pen))) (hn : EvG K ps tn G M (.dat (.list ds)) M) (hok : PenOk pen ∧ 0 < ds.length ∧ ds.length ≤ 1000 ∧ ds[drawN pen ds.length]? = some d) :
    EvG K ps (tCall (sp__law_pick K) [] E0 (tCons (tVar i) (tCons tn tNil))) G M (.dat d) (M.set j (.lst (ePen (drawP pen ds.length)))) :=
  ev_callO (rs := [.dat (.list ds)]) (st := ePen pen) (ea_cons (ev_var h0) (ea_cons hn ea_nil)) hp hM (r__law_pick pen ds d hok)
def F__law_row : List RD → List PyData → RD → List PyData → Prop := fun aa ss zz s2 => ∃ (pen : Pen) (b : Board), (PenOk pen ∧ Valid b) ∧ aa = [.dat (eB b)] ∧ ss = ePen pen ∧ zz = .dat (eR (rowOf pen b)) ∧ s2 = ePen (rowPen pen b)
theorem r__law_row (pen : Pen) (b : Board) (hc : PenOk pen ∧ Valid b) : F__law_row [.dat (eB b)] (ePen pen) (.dat (eR (rowOf pen b))) (ePen (rowPen pen b)) := ⟨pen, b, hc, rfl, rfl, rfl, rfl⟩
abbrev sp__law_row (K : PySem.W.Frag) : Sp := spO K F__law_row
local macro_rules | `(tactic| walk_at "g1") => `(tactic| ((with_reducible apply r__law_row); (try (walk_at "sd"))))
theorem sc__law_row : FnScope ["_law_pen_here", "_law_board_here", "_law_stand", "_law_row_here", "_law_turn", "_law_at"] ["_law_pen_here", "_law_board_here"] (defScope s__law_row) := ⟨rfl, rfl, rfl, by decide +kernel, rfl, by decide +kernel, by decide +kernel⟩
-- slots: 0 _law_pen_here, 1 _law_board_here, 2 _law_stand, 3 _law_row_here, 4 _law_turn, 5 _law_at
theorem df__law_row (T : Tx K mg) (df__law_draw : Df P w K mg base "_law_draw" 1 ["_law_pen_here", "_law_many"] (sp__law_draw K)) (df__law_pick : Df P w K mg base "_law_pick" 2 ["_law_pen_here", "_law_some"] (sp__law_pick K)) (df__law_stands : Df P w K mg base "_law_stands" 1 ["_law_board_here"] (sp__law_stands K)) (df_beat : Df P w K mg base "beat" 7 ["board", "stand"] (sp_beat K)) : Df P w K mg base "_law_row" 8 ["_law_pen_here", "_law_board_here"] (sp__law_row K) := by
  obtain ⟨f, fd, hm, F⟩ := T.d__law_row
  refine ⟨f, fd, hm, F.kp, F.binds (ps := ["_law_pen_here", "_law_board_here"]) (fun _ _ _ _ _ _ us hl => match us, hl with | [_, _], _ => rfl), F.ok sc__law_row (fun vs H Q E h => ?_) (fun cdv A outer s H vs Q E hr h => ?_)⟩
  · obtain ⟨pp, H0, rest, aa, ss, zz, s2, hv, s0, mk, hd, ⟨pen, b, hc, rfl, rfl, rfl, rfl⟩, q⟩ := h
    rw [hv]
    exact congrArg (· + 1) hd.length
  obtain ⟨pp, H0, rest, aa, ss, zz, s2, hv, s0, mk, hd, ⟨pen, b, hc, rfl, rfl, rfl, rfl⟩, q⟩ := h
  refine ⟨_, (pss_cons (ps_asg (pe_df df__law_pick (hr.mono (by decide)) (by rfl) (pa_cons (pv 0) (pa_cons (pe_df df__law_stands (hr.mono (by decide)) (by rfl) (pa_cons (pv 1) pa_nil)) pa_nil))) (pg_name (i := 2) sc__law_row.nd rfl (by first | exact Or.inl rfl | exact Or.inr rfl))) (pss_cons (ps_asg (pe_tup (pa_cons (pe_ix (xK ixD (K := K)) (pv 2) pe_int (fun _ _ => rfl)) pa_nil)) (pg_name (i := 3) sc__law_row.nd rfl (by first | exact Or.inl rfl | exact Or.inr rfl))) (pss_cons (ps_for PassesOwn.never rfl (pi_range1 (by rfl) T.z_range (pa_cons (pe_df df__law_draw (hr.mono (by decide)) (by rfl) (pa_cons (pv 0) (pa_cons pe_int pa_nil))) pa_nil)) (pg_name (i := 4) sc__law_row.nd rfl (by first | exact Or.inl rfl | exact Or.inr rfl)) (pss_cons (ps_asg (pe_df df_beat (hr.mono (by decide)) (by rfl) (pa_cons (pv 1) (pa_cons (pv 2) pa_nil))) (pg_name (i := 2) sc__law_row.nd rfl (by first | exact Or.inl rfl | exact Or.inr rfl))) (pss_one (ps_asg (pe_op (oK oD_add (K := K)) (pv 3) (pe_tup (pa_cons (pe_ix (xK ixD (K := K)) (pv 2) pe_int (fun _ _ => rfl)) pa_nil))) (pg_name (i := 3) sc__law_row.nd rfl (by first | exact Or.inl rfl | exact Or.inr rfl)))))) (pss_cons (ps_asg (pe_df df__law_draw (hr.mono (by decide)) (by rfl) (pa_cons (pv 0) (pa_cons (pe_callB (cK cD_lenA (K := K) (R' := fLenA P w)) (by rfl) T.z_len (by decide +kernel) (pa_cons (pv 3) pa_nil)) pa_nil))) (pg_name (i := 5) sc__law_row.nd rfl (by first | exact Or.inl rfl | exact Or.inr rfl))) (pss_one (ps_ret (pe_ifExp (pt_cmpR (oK oD_gt (K := K)) (pe_df df__law_draw (hr.mono (by decide)) (by rfl) (pa_cons (pv 0) (pa_cons pe_int pa_nil))) pe_int (nomark _)) (pv 3) (pe_op (oK oD_add (K := K)) (pe_op (oK oD_add (K := K)) (pe_slice (lK slD (K := K)) (pv 3) po_none (po_some (pv 5))) (pe_tup (pa_cons (pe_df df__law_draw (hr.mono (by decide)) (by rfl) (pa_cons (pv 0) (pa_cons (pe_callB (cK cD_lenA (K := K) (R' := fLenA P w)) (by rfl) T.z_len (by decide +kernel) (pa_cons (pv 1) pa_nil)) pa_nil))) pa_nil))) (pe_slice (lK slD (K := K)) (pv 3) (po_some (pe_op (oK oD_add (K := K)) (pv 5) pe_int)) po_none))))))))), ?_⟩
  refine body_endO s0 hv mk hd q ?_
  obtain ⟨h1, h2⟩ := hc
  have h8 := h2.most
  have hpos := stands_pos h2
  have hfew := stand_few b 8 h8
  have hk := drawN_lt pen hpos
  obtain ⟨hat, hso⟩ := standD_ok h2 hk
  have hp1 := drawP_ok h1 hpos
  have e0 : ((allStands b).map eS).length = (allStands b).length := List.length_map ..
  refine sv_set1 (r := .dat (eS (standD b (drawN pen (allStands b).length)))) (M1 := [.lst (ePen (drawP pen (allStands b).length))]) (by
    rw [← e0]
    refine ev_pick (ps := [pp]) (j := 0) rfl rfl rfl ?_ ⟨h1, by omega, by omega, ?_⟩
    · walk_at "go"
    · rw [e0, List.getElem?_map, hat]; rfl) ?_
  have hrow : rowOf pen b = (if 0 < drawN (drawP (drawP (drawP pen (allStands b).length) 8) (rowRun b (standD b (drawN pen (allStands b).length)) (drawN (drawP pen (allStands b).length) 8)).2.length) 4 then (rowRun b (standD b (drawN pen (allStands b).length)) (drawN (drawP pen (allStands b).length) 8)).2 else (rowRun b (standD b (drawN pen (allStands b).length)) (drawN (drawP pen (allStands b).length) 8)).2.take (drawN (drawP (drawP pen (allStands b).length) 8) (rowRun b (standD b (drawN pen (allStands b).length)) (drawN (drawP pen (allStands b).length) 8)).2.length) ++ [drawN (drawP (drawP (drawP (drawP pen (allStands b).length) 8) (rowRun b (standD b (drawN pen (allStands b).length)) (drawN (drawP pen (allStands b).length) 8)).2.length) 4) b.length] ++ (rowRun b (standD b (drawN pen (allStands b).length)) (drawN (drawP pen (allStands b).length) 8)).2.drop (drawN (drawP (drawP pen (allStands b).length) 8) (rowRun b (standD b (drawN pen (allStands b).length)) (drawN (drawP pen (allStands b).length) 8)).2.length + 1)) := rfl
  have hrp : rowPen pen b = (if 0 < drawN (drawP (drawP (drawP pen (allStands b).length) 8) (rowRun b (standD b (drawN pen (allStands b).length)) (drawN (drawP pen (allStands b).length) 8)).2.length) 4 then drawP (drawP (drawP (drawP pen (allStands b).length) 8) (rowRun b (standD b (drawN pen (allStands b).length)) (drawN (drawP pen (allStands b).length) 8)).2.length) 4 else drawP (drawP (drawP (drawP (drawP pen (allStands b).length) 8) (rowRun b (standD b (drawN pen (allStands b).length)) (drawN (drawP pen (allStands b).length) 8)).2.length) 4) b.length) := rfl
  rw [hrow, hrp]
  generalize standD b (drawN pen (allStands b).length) = s at *
  generalize drawP pen (allStands b).length = p1 at *
  have ht8 := drawN_lt p1 (many := 8) (by decide)
  have hrr := rowRun_ok h2 hso
  have hp2 := drawP_ok hp1 (many := 8) (by decide)
  apply y_set1 (r := .dat (eR [s.own]))
  · refine ev_is (r := .dat (.tuple [eN s.own])) ?_ rfl
    walk_at "go"
  apply y_for1 (xs := List.range (drawN p1 8)) (enc := fun i => RD.dat (eN i)) (M1 := [.lst (ePen (drawP p1 8))]) (fun i G' M' => M' = [.lst (ePen (drawP p1 8))] ∧ ∃ x y, G' = [some (.raw (.ref pp)), some (.dat (eB b)), some (.dat (eS (rowRun b s i).1)), some (.dat (eR (rowRun b s i).2)), x, y])
  · refine iv_rng1 (ea_cons (ev_draw (ps := [pp]) (j := 0) rfl rfl rfl ?_ ⟨hp1, by decide, by decide⟩) ea_nil) (by omega)
    walk_at "go"
  · exact ⟨rfl, _, _, rfl⟩
  · rintro i x hx G' M' ⟨rfl, g1, g2, rfl⟩
    obtain ⟨q1, q2, q3⟩ := hrr i
    obtain ⟨rfl, hi⟩ := range_at hx
    apply svt
    · walk_at "go"
    apply y_set1 (r := .dat (eS (Wm.beat b (rowRun b s x).1)))
    · walk_at "go"
    apply y_set (r := .dat (eR (rowRun b s (x + 1)).2))
    · show EvG K _ _ _ _ (.dat (.tuple (((rowRun b s x).2 ++ [(Wm.beat b (rowRun b s x).1).own]).map eN))) _
      rw [List.map_append]
      refine x_op (R := dAdd) (a := .dat (eR (rowRun b s x).2)) (b := .dat (.tuple [eN (Wm.beat b (rowRun b s x).1).own])) ?_ ?_ ⟨rfl, ?_⟩
      · walk_at "go"
      · walk_at "go"
      · rw [List.length_map, q2]; show _ + 1 ≤ 1000000; omega
    · exact ⟨rfl, _, _, rfl⟩
  · rintro G' M' ⟨rfl, g1, g2, rfl⟩
    rw [List.length_range]
    obtain ⟨q1, q2, q3⟩ := hrr (drawN p1 8)
    generalize (rowRun b s (drawN p1 8)).1 = t at *
    generalize (rowRun b s (drawN p1 8)).2 = r at *
    generalize drawP p1 8 = p2 at *
    have hat2 := drawN_lt p2 (many := r.length) (by omega)
    have hp3 := drawP_ok hp2 (many := r.length) (by omega)
    refine sv_set1 (r := .dat (eN (drawN p2 r.length))) (M1 := [.lst (ePen (drawP p2 r.length))]) (ev_draw (ps := [pp]) (j := 0) rfl rfl rfl ?_ ⟨hp2, by omega, by omega⟩) ?_
    · walk_at "go"
    generalize drawN p2 r.length = k at *
    generalize drawP p2 r.length = p3 at *
    have hp4 := drawP_ok hp3 (many := 4) (by decide)
    have htest : EtG K [pp] (tTest (tOp (rD2 K dGt) (tCall (sp__law_draw K) [] E0 (tCons (tVar 0) (tCons (tC (.int 4)) tNil))) (tC (.int 0)))) (([some (.raw (.ref pp)), some (.dat (eB b)), some (.dat (eS t)), some (.dat (eR r)), g1, g2] : Wp.Env).set 5 (some (.dat (eN k)))) [.lst (ePen p3)] (decide (0 < drawN p3 4)) [.lst (ePen (drawP p3 4))] := by
      refine et_test (ev_op (F := dGt) (M1 := [.lst (ePen (drawP p3 4))]) (a := .dat (eN (drawN p3 4))) (b := .dat (.int 0)) (ev_draw (ps := [pp]) (j := 0) rfl rfl rfl ?_ ⟨hp3, by decide, by decide⟩) ?_ ⟨trivial, congrArg (fun z => RD.dat (.bool z)) (decide_eq_decide.mpr (by omega)).symm⟩)
      · walk_at "go"
      · walk_at "go"
    by_cases hb : 0 < drawN p3 4
    · rw [if_pos hb, if_pos hb]
      rw [decide_eq_true hb] at htest
      refine sv_ret (M1 := [.lst (ePen (drawP p3 4))]) (ev_ifT htest ?_) rfl
      walk_at "go"
    · rw [if_neg hb, if_neg hb]
      rw [decide_eq_false hb] at htest
      have hbl := h2.few
      refine sv_ret (M1 := [.lst (ePen (drawP (drawP p3 4) b.length))]) (ev_ifF htest (ev_is (r := .dat (.tuple (((r.take k).map eN ++ [eN (drawN (drawP p3 4) b.length)]) ++ (r.drop (k + 1)).map eN))) ?_ ?_)) rfl
      · refine ev_op (F := dAdd) (M1 := [.lst (ePen (drawP (drawP p3 4) b.length))]) (a := .dat (.tuple ((r.take k).map eN ++ [eN (drawN (drawP p3 4) b.length)]))) (b := .dat (.tuple ((r.drop (k + 1)).map eN))) (ev_op (F := dAdd) (M1 := [.lst (ePen (drawP p3 4))]) (a := .dat (.tuple ((r.take k).map eN))) (b := .dat (.tuple [eN (drawN (drawP p3 4) b.length)])) ?_ (ev_tup (ds := [eN (drawN (drawP p3 4) b.length)]) (ea_cons (ev_draw (ps := [pp]) (j := 0) rfl rfl rfl ?_ ⟨hp4, by omega, by omega⟩) ea_nil) (Nat.le_of_ble_eq_true rfl)) ⟨rfl, ?_⟩) ?_ ⟨rfl, ?_⟩
        · refine ev_is (r := .dat (.tuple (cutD (r.map eN) none (some (k : Int))))) ?_ ?_
          · walk_at "go"
          · rw [cut_upto, List.map_take]
        · walk_at "go"
        · rw [List.length_map, List.length_take]; show _ + 1 ≤ 1000000; omega
        · refine ev_is (r := .dat (.tuple (cutD (r.map eN) (some ((k + 1 : Nat) : Int)) none))) ?_ ?_
          · refine x_sl (R := dSl) (a := .dat (eR r)) (l := some ((k + 1 : Nat) : Int)) ?_ (xo_some ?_) ?_ rfl
            · walk_at "go"
            · refine ev_is (r := .dat (.int ((k : Int) + 1))) ?_ rfl
              walk_at "go"
            · walk_at "go"
          · rw [cut_from, List.map_drop]
        · rw [List.length_append, List.length_map, List.length_map, List.length_take, List.length_drop]; show _ + 1 + _ ≤ 1000000; omega
      · show _ = RD.dat (.tuple (List.map eN _))
        rw [List.map_append, List.map_append]
        rfl
end
end Wk
end
section
set_option Elab.async false
set_option linter.all false
set_option autoImplicit false
set_option maxRecDepth 100000
set_option maxHeartbeats 4000000
namespace Wk
open PySem L2 Wp Wm
/-! ### the words of the evaluation -/
local macro_rules | `(tactic| walk_at "sd") => `(tactic| first
  | assumption
  | exact trivial
  | exact rfl
  | omega
  | (refine ⟨?_, ?_⟩ <;> (walk_at "sd")))
local macro_rules | `(tactic| walk_at "g1") => `(tactic| first
  | ((with_reducible apply ev_var); exact rfl)
  | with_reducible exact ev_int
  | with_reducible exact ev_str
  | with_reducible exact ev_bl
  | with_reducible exact ev_non
  | with_reducible exact ev_raw
  | exact ev_int
  | with_reducible exact xa_nil
  | with_reducible exact xd_nil
  | with_reducible exact eo_none
  | with_reducible apply x_op
  | with_reducible apply x_cb
  | with_reducible apply x_call
  | with_reducible apply x_tup
  | with_reducible apply x_lst
  | with_reducible apply xa_cons
  | with_reducible apply xd_cons
  | with_reducible apply xo_some
  | with_reducible apply x_un
  | with_reducible apply x_sl
  | with_reducible apply x_if
  | with_reducible apply x_and
  | with_reducible apply x_or
  | with_reducible apply x_not
  | with_reducible apply x_chain
  | with_reducible apply xt_test
  | with_reducible apply xt_B
  | with_reducible apply xt_not
  | with_reducible apply xt_and
  | with_reducible apply xt_or
  | ((with_reducible refine fun _ => ?_); first | with_reducible show EvG _ _ _ _ _ _ _ | with_reducible show EtG _ _ _ _ _ _ _)
  | ((with_reducible refine fun _ _ => ?_); first | with_reducible show TgW _ _ _ _ _ _ | with_reducible show EvG _ _ _ _ _ _ _ | with_reducible show EtG _ _ _ _ _ _ _)
  | exact rfl
  | assumption
  | exact ⟨_, rfl, rfl⟩
  | exact ⟨_, by assumption, rfl⟩
  | exact ⟨trivial, rfl⟩
  | exact Or.inl rfl
  | exact ⟨rfl, rfl, rfl⟩
  | exact ⟨by decide, rfl⟩
  | exact ⟨by assumption, rfl⟩
  | exact ⟨rfl, by assumption⟩
  | exact ⟨rfl, by decide⟩
  | (show List.length _ ≤ 1000; exact Nat.le_of_ble_eq_true rfl)
  | fail "open")
local macro_rules | `(tactic| walk_at "go") => `(tactic| repeat' (walk_at "g1"))
local macro_rules | `(tactic| walk_at "g1") => `(tactic| ((with_reducible apply ix_pin); (try (walk_at "sd"))))
local macro_rules | `(tactic| walk_at "g1") => `(tactic| first
  | with_reducible exact tw_name
  | with_reducible apply tw_tup
  | with_reducible exact tws_nil
  | with_reducible apply tws_cons
  | with_reducible exact tg_name
  | with_reducible apply tg_tup
  | with_reducible exact tgs_nil
  | with_reducible apply tgs_cons
  | with_reducible exact r_all _ _
  | with_reducible exact r_sum _ _
  | with_reducible exact r_len _
  | with_reducible exact r_lenT _)
local macro_rules | `(tactic| walk_at "g1") => `(tactic| first
  | with_reducible exact dEq_wayL _
  | with_reducible exact dEq_wordA _
  | with_reducible exact dEq_wordB _
  | with_reducible exact dEq_int _ _
  | with_reducible exact dNe_int _ _
  | with_reducible exact dEq_bool _ _
  | with_reducible exact r_all2 _ _ _
  | with_reducible exact dIn_nats _ _
  | with_reducible exact dNotIn_nats _ _)
local macro_rules | `(tactic| walk_at "g1") => `(tactic| first
  | ((with_reducible apply dMod_at); (walk_at "sd"))
  | ((with_reducible apply dDiv_at); (walk_at "sd"))
  | ((with_reducible apply dMul_at); (walk_at "sd")))

section
variable {P : Program} {w : World} {K : PySem.W.Frag} {mg : Str → Option Value} {base : Heap}
local macro_rules | `(tactic| walk_at "g1") => `(tactic| ((with_reducible apply r_is_whole); (try (walk_at "sd"))))
local macro_rules | `(tactic| walk_at "g1") => `(tactic| ((with_reducible apply r_is_within); (try (walk_at "sd"))))
local macro_rules | `(tactic| walk_at "g1") => `(tactic| ((with_reducible apply r_is_long); (try (walk_at "sd"))))
local macro_rules | `(tactic| walk_at "g1") => `(tactic| ((with_reducible apply r_rises); (try (walk_at "sd"))))
local macro_rules | `(tactic| walk_at "g1") => `(tactic| ((with_reducible apply r_is_way); (try (walk_at "sd"))))
local macro_rules | `(tactic| walk_at "g1") => `(tactic| ((with_reducible apply r_other_way); (try (walk_at "sd"))))
local macro_rules | `(tactic| walk_at "g1") => `(tactic| ((with_reducible apply r_is_pin_by); (try (walk_at "sd"))))
local macro_rules | `(tactic| walk_at "g1") => `(tactic| ((with_reducible apply r_cross); (try (walk_at "sd"))))
local macro_rules | `(tactic| walk_at "g1") => `(tactic| ((with_reducible apply r_between); (try (walk_at "sd"))))
local macro_rules | `(tactic| walk_at "g1") => `(tactic| ((with_reducible apply r_pairs_of); (try (walk_at "sd"))))
local macro_rules | `(tactic| walk_at "g1") => `(tactic| ((with_reducible apply r_is_board); (try (walk_at "sd"))))
local macro_rules | `(tactic| walk_at "g1") => `(tactic| ((with_reducible apply r_need_board); (try (walk_at "sd"))))
local macro_rules | `(tactic| walk_at "g1") => `(tactic| ((with_reducible apply r_need_pins); (try (walk_at "sd"))))
local macro_rules | `(tactic| walk_at "g1") => `(tactic| ((with_reducible apply r_with_ways_by); (try (walk_at "sd"))))
local macro_rules | `(tactic| walk_at "g1") => `(tactic| ((with_reducible apply r_with_ways); (try (walk_at "sd"))))
local macro_rules | `(tactic| walk_at "g1") => `(tactic| ((with_reducible apply r_mirrored); (try (walk_at "sd"))))
local macro_rules | `(tactic| walk_at "g1") => `(tactic| ((with_reducible apply r_other_word); (try (walk_at "sd"))))
local macro_rules | `(tactic| walk_at "g1") => `(tactic| ((with_reducible apply r_turned_about); (try (walk_at "sd"))))
local macro_rules | `(tactic| walk_at "g1") => `(tactic| ((with_reducible apply r_is_stand_by); (try (walk_at "sd"))))
local macro_rules | `(tactic| walk_at "g1") => `(tactic| ((with_reducible apply r_need_stand); (try (walk_at "sd"))))
local macro_rules | `(tactic| walk_at "g1") => `(tactic| ((with_reducible apply r_look_of); (try (walk_at "sd"))))
local macro_rules | `(tactic| walk_at "g1") => `(tactic| ((with_reducible apply r_met_first); (try (walk_at "sd"))))
local macro_rules | `(tactic| walk_at "g1") => `(tactic| ((with_reducible apply r_beside); (try (walk_at "sd"))))
local macro_rules | `(tactic| walk_at "g1") => `(tactic| ((with_reducible apply r_beat_by); (try (walk_at "sd"))))
local macro_rules | `(tactic| walk_at "g1") => `(tactic| ((with_reducible apply r_beat); (try (walk_at "sd"))))
local macro_rules | `(tactic| walk_at "g1") => `(tactic| ((with_reducible apply r_all_stands); (try (walk_at "sd"))))
local macro_rules | `(tactic| walk_at "g1") => `(tactic| ((with_reducible apply r_need_row); (try (walk_at "sd"))))
local macro_rules | `(tactic| walk_at "g1") => `(tactic| ((with_reducible apply r_need_seen); (try (walk_at "sd"))))
local macro_rules | `(tactic| walk_at "g1") => `(tactic| ((with_reducible apply r_by_ways); (try (walk_at "sd"))))
local macro_rules | `(tactic| walk_at "g1") => `(tactic| ((with_reducible apply r_all_ways); (try (walk_at "sd"))))
local macro_rules | `(tactic| walk_at "g1") => `(tactic| ((with_reducible apply r_end_of); (try (walk_at "sd"))))
local macro_rules | `(tactic| walk_at "g1") => `(tactic| ((with_reducible apply r_stories); (try (walk_at "sd"))))
local macro_rules | `(tactic| walk_at "g1") => `(tactic| ((with_reducible apply r_many_stories); (try (walk_at "sd"))))
local macro_rules | `(tactic| walk_at "g1") => `(tactic| ((with_reducible apply r_some_story); (try (walk_at "sd"))))
local macro_rules | `(tactic| walk_at "g1") => `(tactic| ((with_reducible apply r_is_story); (try (walk_at "sd"))))
local macro_rules | `(tactic| walk_at "g1") => `(tactic| ((with_reducible apply r_next_pins); (try (walk_at "sd"))))
local macro_rules | `(tactic| walk_at "g1") => `(tactic| ((with_reducible apply r_sure_ways); (try (walk_at "sd"))))
local macro_rules | `(tactic| walk_at "g1") => `(tactic| ((with_reducible apply r__law_cell_at); (try (walk_at "sd"))))
local macro_rules | `(tactic| walk_at "g1") => `(tactic| ((with_reducible apply r__law_pen); (try (walk_at "sd"))))
local macro_rules | `(tactic| walk_at "g1") => `(tactic| ((with_reducible apply r__law_draw); (try (walk_at "sd"))))
local macro_rules | `(tactic| walk_at "g1") => `(tactic| ((with_reducible apply r__law_pick); (try (walk_at "sd"))))
local macro_rules | `(tactic| walk_at "g1") => `(tactic| ((with_reducible apply r__law_cross); (try (walk_at "sd"))))
local macro_rules | `(tactic| walk_at "g1") => `(tactic| ((with_reducible apply r__law_far); (try (walk_at "sd"))))
local macro_rules | `(tactic| walk_at "g1") => `(tactic| ((with_reducible apply r__law_fits); (try (walk_at "sd"))))
local macro_rules | `(tactic| walk_at "g1") => `(tactic| ((with_reducible apply r__law_board); (try (walk_at "sd"))))
local macro_rules | `(tactic| walk_at "g1") => `(tactic| ((with_reducible apply r__law_stands); (try (walk_at "sd"))))
local macro_rules | `(tactic| walk_at "g1") => `(tactic| ((with_reducible apply r__law_turned_ways); (try (walk_at "sd"))))
local macro_rules | `(tactic| walk_at "g1") => `(tactic| ((with_reducible apply r__law_row); (try (walk_at "sd"))))
theorem flipAt_parts {ws : List Way} {i : Nat} (h : i < ws.length) : flipAt ws i = ws.take i ++ [(wAt ws i).flip] ++ ws.drop (i + 1) := by
  apply List.ext_getElem?
  intro j
  rw [flipAt_get, List.append_assoc]
  have hl : (ws.take i).length = i := by rw [List.length_take]; omega
  by_cases c : i = j
  · subst c
    rw [if_pos rfl, List.getElem?_append_right (by omega), hl, Nat.sub_self, wAt_get h]
    rfl
  · rw [if_neg c]
    by_cases d : j < i
    · rw [List.getElem?_append_left (by omega), List.getElem?_take_of_lt d]
    · rw [List.getElem?_append_right (by omega), hl, List.getElem?_append_right (by show 1 ≤ _; omega), List.getElem?_drop]
      congr 1
      show j = i + 1 + (j - i - 1)
      omega
theorem ix_pow {k : Nat} (h : k ≤ 5) : dIx (.dat (.list [.int 1, .int 2, .int 4, .int 8, .int 16, .int 32])) (.dat (eN k)) (.dat (eN (2 ^ k))) := by
  have : k = 0 ∨ k = 1 ∨ k = 2 ∨ k = 3 ∨ k = 4 ∨ k = 5 := by omega
  rcases this with rfl | rfl | rfl | rfl | rfl | rfl <;> exact ⟨_, rfl, rfl⟩
theorem dIs_TO (o : Option Story) : dIs false (.dat (eTO o)) (.dat .none) (.dat (.bool o.isNone)) := by cases o <;> rfl
theorem ok_row_drop (r : List Nat) : cutD (r.map eN) none (some (-1)) = r.dropLast.map eN := by rw [cut_last, List.map_dropLast]
def F__law_free_right : List RD → RD → Prop := fun aa zz => ∃ (b : Board) (r : List Nat), (Valid b ∧ RowOk b r ∧ b.length ≤ 5) ∧ aa = [.dat (eB b), .dat (eR r)] ∧ zz = .dat (.bool true)
theorem r__law_free_right (b : Board) (r : List Nat) (hc : Valid b ∧ RowOk b r ∧ b.length ≤ 5) : F__law_free_right [.dat (eB b), .dat (eR r)] (.dat (.bool true)) := ⟨b, r, hc, rfl, rfl⟩
abbrev sp__law_free_right (K : PySem.W.Frag) : Sp := spD K F__law_free_right
local macro_rules | `(tactic| walk_at "g1") => `(tactic| ((with_reducible apply r__law_free_right); (try (walk_at "sd"))))
theorem sc__law_free_right : FnScope ["_law_board_here", "_law_row_here", "_law_free", "_law_many", "_law_sure", "_law_story", "_law_ways", "_law_stand", "_law_pin", "_law_turned", "_law_other"] ["_law_board_here", "_law_row_here"] (defScope s__law_free_right) := ⟨rfl, rfl, rfl, by decide +kernel, rfl, by decide +kernel, by decide +kernel⟩
-- slots: 0 _law_board_here, 1 _law_row_here, 2 _law_free, 3 _law_many, 4 _law_sure, 5 _law_story, 6 _law_ways, 7 _law_stand, 8 _law_pin, 9 _law_turned, 10 _law_other
theorem df__law_free_right (T : Tx K mg) (df__law_turned_ways : Df P w K mg base "_law_turned_ways" 1 ["_law_ways"] (sp__law_turned_ways K)) (df_is_story : Df P w K mg base "is_story" 7 ["board", "row", "thing"] (sp_is_story K)) (df_many_stories : Df P w K mg base "many_stories" 7 ["board", "row"] (sp_many_stories K)) (df_some_story : Df P w K mg base "some_story" 7 ["board", "row"] (sp_some_story K)) (df_sure_ways : Df P w K mg base "sure_ways" 7 ["board", "row"] (sp_sure_ways K)) : Df P w K mg base "_law_free_right" 8 ["_law_board_here", "_law_row_here"] (sp__law_free_right K) := by
  obtain ⟨f, fd, hm, F⟩ := T.d__law_free_right
  refine ⟨f, fd, hm, F.kp, F.binds (ps := ["_law_board_here", "_law_row_here"]) (fun _ _ _ _ _ _ us hl => match us, hl with | [_, _], _ => rfl), F.ok sc__law_free_right (fun vs H Q E h => ?_) (fun cdv A outer s H vs Q E hr h => ?_)⟩
  · obtain ⟨H0, aa, zz, s0, hd, ⟨b, r, hc, rfl, rfl⟩, q⟩ := h
    exact hd.length
  obtain ⟨H0, aa, zz, s0, hd, ⟨b, r, hc, rfl, rfl⟩, q⟩ := h
  refine ⟨_, (pss_cons (ps_setLc (i := 2) (own := [("_law_pin", 8)]) (g := (gName 8)) rfl sc__law_free_right.nd rfl rfl (sw_true rfl rfl rfl (by decide +kernel)) (pi_range1 (by rfl) T.z_range (pa_cons (pe_callB (cK cD_lenA (K := K) (R' := fLenA P w)) (by rfl) T.z_len (by decide +kernel) (pa_cons (pv 0) pa_nil)) pa_nil)) (blkOk_by (show blkC ["_law_board_here", "_law_row_here", "_law_free", "_law_many", "_law_sure", "_law_story", "_law_ways", "_law_stand", "_law_pin", "_law_turned", "_law_other"] (defScope s__law_free_right) _ _ = true by decide +kernel)) (fun _ _ _ _ _ => (pg_name (i := 8) sc__law_free_right.nd rfl (by first | exact Or.inl rfl | exact Or.inr rfl))) (fun _ _ _ _ _ => (pts_one (pt_cmpR (oK (oD_notin (u65 hr)) (K := K)) (pv 8) (pe_slice (lK slD (K := K)) (pv 1) po_none (po_some (pe_un (uK oD_neg (K := K)) pe_int))) (by rfl)))) (fun _ _ _ _ _ => (pv 8))) (pss_cons (ps_par3 (i := 3) (j := 4) (l := 5) (by rfl) sc__law_free_right.nd rfl rfl rfl (by decide) (by decide) (by decide) rfl rfl rfl (pa_cons (pe_df df_many_stories (hr.mono (by decide)) (by rfl) (pa_cons (pv 0) (pa_cons (pv 1) pa_nil))) (pa_cons (pe_df df_sure_ways (hr.mono (by decide)) (by rfl) (pa_cons (pv 0) (pa_cons (pv 1) pa_nil))) (pa_cons (pe_df df_some_story (hr.mono (by decide)) (by rfl) (pa_cons (pv 0) (pa_cons (pv 1) pa_nil))) pa_nil))) (by rfl)) (pss_cons (ps_if (pt_cmpR (oK (oD_ne hr.units) (K := K)) (pe_op (oK oD_mod (K := K)) (pv 3) (pe_ix (xK ixD (K := K)) (pe_lst (pa_cons pe_int (pa_cons pe_int (pa_cons pe_int (pa_cons pe_int (pa_cons pe_int (pa_cons pe_int pa_nil))))))) (pe_callB (cK cD_lenA (K := K) (R' := fLenA P w)) (by rfl) T.z_len (by decide +kernel) (pa_cons (pv 2) pa_nil)) (fun _ _ => rfl))) pe_int (nomark _)) (pss_one (ps_ret pe_bl)) pss_nil) (pss_cons (ps_if (PW.pt (pw_or (pt_cmpR (oK (oD_ne hr.units) (K := K)) (pe_cmpR (oK (oD_eq hr.units) (K := K)) (pv 3) pe_int (nomark _)) (pe_cmpR (oK oD_is (K := K)) (pv 5) pe_non (nomark _)) (nomark _)) (pw_or1 (pt_cmpR (oK (oD_ne hr.units) (K := K)) (pe_cmpR (oK oD_is (K := K)) (pv 4) pe_non (nomark _)) (pe_cmpR (oK oD_is (K := K)) (pv 5) pe_non (nomark _)) (nomark _))))) (pss_one (ps_ret pe_bl)) pss_nil) (pss_cons (ps_if (pt_cmpR (oK oD_is (K := K)) (pv 5) pe_non (nomark _)) (pss_one (ps_ret pe_bl)) pss_nil) (pss_cons (ps_asg (pv 5) (kTup (K := K) 2 rfl (pgs_cons (pg_name (i := 6) sc__law_free_right.nd rfl (by first | exact Or.inl rfl | exact Or.inr rfl)) (pgs_cons (pg_name (i := 7) sc__law_free_right.nd rfl (by first | exact Or.inl rfl | exact Or.inr rfl)) pgs_nil)))) (pss_cons (ps_for PassesOwn.never rfl (kSeq (pv 2) (K := K)) (pg_name (i := 8) sc__law_free_right.nd rfl (by first | exact Or.inl rfl | exact Or.inr rfl)) (pss_cons (ps_asg (pe_df df__law_turned_ways (hr.mono (by decide)) (by rfl) (pa_cons (pe_slice (lK slD (K := K)) (pv 6) (po_some (pv 8)) (po_some (pe_op (oK oD_add (K := K)) (pv 8) pe_int))) pa_nil)) (pg_name (i := 9) sc__law_free_right.nd rfl (by first | exact Or.inl rfl | exact Or.inr rfl))) (pss_cons (ps_asg (pe_op (oK oD_add (K := K)) (pe_op (oK oD_add (K := K)) (pe_slice (lK slD (K := K)) (pv 6) po_none (po_some (pv 8))) (pv 9)) (pe_slice (lK slD (K := K)) (pv 6) (po_some (pe_op (oK oD_add (K := K)) (pv 8) pe_int)) po_none)) (pg_name (i := 10) sc__law_free_right.nd rfl (by first | exact Or.inl rfl | exact Or.inr rfl))) (pss_cons (ps_if (pt_cmpR (oK oD_isnot (K := K)) (pe_ix (xK ixD (K := K)) (pv 4) (pv 8) (fun _ _ => rfl)) pe_non (nomark _)) (pss_one (ps_ret pe_bl)) pss_nil) (pss_one (ps_if (pt_cmpR (oK oD_isnot (K := K)) (pe_df df_is_story (hr.mono (by decide)) (by rfl) (pa_cons (pv 0) (pa_cons (pv 1) (pa_cons (pe_tup (pa_cons (pv 10) (pa_cons (pv 7) pa_nil))) pa_nil)))) pe_bl (nomark _)) (pss_one (ps_ret pe_bl)) pss_nil)))))) (pss_one (ps_ret pe_bl))))))))), ?_⟩
  refine body_end s0 hd q ?_
  obtain ⟨h1, h2, h3⟩ := hc
  have hr := h2.2.2
  have hdv := free_count h1 hr
  generalize hfree : (List.range b.length).filter (fun p => !decide (p ∈ r.dropLast)) = free at hdv
  have hfl : free.length ≤ 5 := by
    rw [← hfree]
    exact Nat.le_trans (List.length_filter_le _ _) (by rw [List.length_range]; exact h3)
  have hfm : ∀ x ∈ free, x < b.length ∧ x ∉ r.dropLast := fun x hx => by
    rw [← hfree] at hx
    obtain ⟨q1, q2⟩ := List.mem_filter.mp hx
    exact ⟨List.mem_range.mp q1, by simpa using q2⟩
  apply y_set1 (r := .dat (.list (free.map eN)))
  · rw [← hfree]
    apply x_lcP (List.range b.length) (fun i => RD.dat (eN i)) (fun p => !decide (p ∈ r.dropLast)) eN
    · apply xi_rngN
      · walk_at "go"
      · omega
    · walk_at "go"
    · intro p hp
      refine xt_test (x_op (R := dIn true) (a := .dat (eN p)) (b := .dat (eR r.dropLast)) ?_ ?_ (dNotIn_nats r.dropLast p))
      · walk_at "go"
      · refine ev_is (r := .dat (.tuple (cutD (r.map eN) none (some (-1))))) (x_sl (R := dSl) (a := .dat (eR r)) (u := some (-1)) ?_ ?_ (xo_some (x_un (R := dNeg) (a := .dat (.int 1)) ?_ rfl)) rfl) (by rw [ok_row_drop])
        · walk_at "go"
        · walk_at "go"
        · walk_at "go"
    · intro p hp _
      walk_at "go"
    · rw [List.length_range]; omega
  apply y_par3 (r := .dat (eN (Wm.stories b r).length)) (r' := .dat (eSure (sure b r))) (r'' := .dat (eTO (Wm.stories b r).head?))
  · walk_at "go"
  apply y_skip (b := !decide (((Wm.stories b r).length : Int) % ((2 ^ free.length : Nat) : Int) = 0))
  · refine xt_test (x_op (R := dEq true) (a := .dat (.int (((Wm.stories b r).length : Int) % ((2 ^ free.length : Nat) : Int)))) (b := .dat (.int 0)) (x_op (R := dMod) (a := .dat (eN (Wm.stories b r).length)) (b := .dat (eN (2 ^ free.length))) ?_ (x_op (R := dIx) (a := .dat (.list [.int 1, .int 2, .int 4, .int 8, .int 16, .int 32])) (b := .dat (eN free.length)) ?_ ?_ (ix_pow hfl)) ⟨?_, rfl⟩) ?_ (dNe_int _ _))
    · walk_at "go"
    · walk_at "go"
    · walk_at "go"
    · have := Nat.pow_pos (a := 2) (n := free.length) (by decide)
      omega
    · walk_at "go"
  · have : ((Wm.stories b r).length : Int) % ((2 ^ free.length : Nat) : Int) = 0 := Int.emod_eq_zero_of_dvd (Int.natCast_dvd_natCast.mpr hdv)
    rw [decide_eq_true this]
    rfl
  have hsure := sure_eq b r
  have hall : ∀ t ∈ Wm.stories b r, t.1.length = b.length := fun t ht => (mem_stories.mp ht).1
  have hfs : ∀ x ∈ free, ∀ t ∈ Wm.stories b r, (flipAt t.1 x, t.2) ∈ Wm.stories b r := fun x hx t ht => free_story h1 hr (hfm x hx).2 ht
  have hsu : Wm.stories b r ≠ [] → ∀ x ∈ free, sureAt (Wm.stories b r) x = none := fun hne x hx => free_sure h1 hr (hfm x hx).2 hne (hfm x hx).1
  cases hs : Wm.stories b r with
  | nil =>
    rw [hs, if_pos rfl] at hsure
    rw [hsure]
    apply y_skip (b := !decide (decide (((([] : List Story).length : Nat) : Int) = 0) = true) || !decide ((none : Option (List (Option Way))).isNone = true))
    · refine xt_or (xt_test (x_op (R := dEq true) (a := .dat (.bool (decide (((([] : List Story).length : Nat) : Int) = 0)))) (b := .dat (.bool true)) ?_ (x_op (R := dIs false) (a := .dat (eTO ([] : List Story).head?)) (b := .dat .none) ?_ ?_ (dIs_TO _)) (dNe_bool _ _))) fun _ => xt_test (x_op (R := dEq true) (a := .dat (.bool true)) (b := .dat (.bool true)) (x_op (R := dIs false) (a := .dat (eSure none)) (b := .dat .none) ?_ ?_ (dIs_sure false none)) (x_op (R := dIs false) (a := .dat (eTO ([] : List Story).head?)) (b := .dat .none) ?_ ?_ (dIs_TO _)) (dNe_bool _ _)) <;> walk_at "go"
    · rfl
    apply y_take (b := true)
    · refine xt_test (x_op (R := dIs false) (a := .dat (eTO ([] : List Story).head?)) (b := .dat .none) ?_ ?_ (dIs_TO _)) <;> walk_at "go"
    · rfl
    apply y_ret
    · walk_at "go"
    · rfl
  | cons t ts =>
    rw [hs] at hall hfs hsu
    rw [hs, if_neg (List.cons_ne_nil _ _)] at hsure
    rw [hsure]
    have hsu := hsu (List.cons_ne_nil _ _)
    have hm0 : decide ((((t :: ts).length : Nat) : Int) = 0) = false := decide_eq_false (by rw [List.length_cons]; omega)
    apply y_skip (b := !decide (decide ((((t :: ts).length : Nat) : Int) = 0) = false) || !decide ((some ((List.range b.length).map (sureAt (t :: ts)))).isNone = false))
    · refine xt_or (xt_test (x_op (R := dEq true) (a := .dat (.bool (decide ((((t :: ts).length : Nat) : Int) = 0)))) (b := .dat (.bool false)) ?_ (x_op (R := dIs false) (a := .dat (eTO (t :: ts).head?)) (b := .dat .none) ?_ ?_ (dIs_TO _)) (dNe_bool _ _))) fun _ => xt_test (x_op (R := dEq true) (a := .dat (.bool false)) (b := .dat (.bool false)) (x_op (R := dIs false) (a := .dat (eSure (some ((List.range b.length).map (sureAt (t :: ts)))))) (b := .dat .none) ?_ ?_ (dIs_sure false _)) (x_op (R := dIs false) (a := .dat (eTO (t :: ts).head?)) (b := .dat .none) ?_ ?_ (dIs_TO _)) (dNe_bool _ _)) <;> walk_at "go"
    · rw [hm0]; rfl
    apply y_skip (b := false)
    · refine xt_test (x_op (R := dIs false) (a := .dat (eTO (t :: ts).head?)) (b := .dat .none) ?_ ?_ (dIs_TO _)) <;> walk_at "go"
    · rfl
    have ht := hall t List.mem_cons_self
    have hstand : StandOk b t.2.1 := by
      have hm : t ∈ Wm.stories b r := by rw [hs]; exact List.mem_cons_self
      have := mem_allStands.mp (mem_stories.mp hm).2.1
      exact (like_symm (like_byWays ht)).standOk this
    apply y_asg1 (r := .dat (.tuple [eWs t.1, eS t.2.1]))
    · walk_at "go"
    · walk_at "go"
    apply y_for1 (xs := free) (enc := fun i => RD.dat (eN i)) (fun i G' M' => M' = [] ∧ ∃ x y z, G' = [some (.dat (eB b)), some (.dat (eR r)), some (.dat (.list (free.map eN))), some (.dat (eN (t :: ts).length)), some (.dat (eSure (some ((List.range b.length).map (sureAt (t :: ts)))))), some (.dat (eTO (t :: ts).head?)), some (.dat (eWs t.1)), some (.dat (eS t.2.1)), x, y, z])
    · apply xi_listE
      walk_at "go"
    · exact ⟨rfl, _, _, _, rfl⟩
    · rintro i x hx G' M' ⟨rfl, g1, g2, g3, rfl⟩
      have hxm := List.mem_of_getElem? hx
      obtain ⟨hxl, hxn⟩ := hfm x hxm
      have hst := hfs x hxm t List.mem_cons_self
      rw [← hs] at hst
      obtain ⟨k1, k2, k3⟩ := mem_stories.mp hst
      have hxw : x < t.1.length := by rw [ht]; exact hxl
      apply svt
      · walk_at "go"
      apply y_set1 (r := .dat (.tuple [eW (wAt t.1 x).flip]))
      · refine x_call (ds := [.dat (.tuple ([some (wAt t.1 x)].map eWO))]) (xa_cons ?_ xa_nil) (r__law_turned_ways [some (wAt t.1 x)] (by show 1 ≤ 100; decide))
        refine ev_is (r := .dat (.tuple (cutD (t.1.map eW) (some (x : Int)) (some ((x + 1 : Nat) : Int))))) (x_sl (R := dSl) (a := .dat (eWs t.1)) (l := some (x : Int)) (u := some ((x + 1 : Nat) : Int)) ?_ (xo_some ?_) (xo_some (ev_is (r := .dat (.int ((x : Int) + 1))) ?_ rfl)) rfl) ?_
        · walk_at "go"
        · walk_at "go"
        · walk_at "go"
        · rw [cut_part _ _ _ (by rw [List.length_map]; omega) (by rw [List.length_map]; omega), show x + 1 - x = 1 by omega, ← List.map_drop, List.drop_eq_getElem_cons hxw]
          have := wAt_get hxw
          rw [List.getElem?_eq_getElem hxw] at this
          rw [Option.some.inj this]
          rfl
      apply y_set1 (r := .dat (eWs (flipAt t.1 x)))
      · rw [flipAt_parts hxw]
        refine ev_is (r := .dat (.tuple (((t.1.take x).map eW ++ [eW (wAt t.1 x).flip]) ++ (t.1.drop (x + 1)).map eW))) (x_op (R := dAdd) (a := .dat (.tuple ((t.1.take x).map eW ++ [eW (wAt t.1 x).flip]))) (b := .dat (.tuple ((t.1.drop (x + 1)).map eW))) (x_op (R := dAdd) (a := .dat (.tuple ((t.1.take x).map eW))) (b := .dat (.tuple [eW (wAt t.1 x).flip])) ?_ ?_ ⟨rfl, ?_⟩) ?_ ⟨rfl, ?_⟩) ?_
        · refine ev_is (r := .dat (.tuple (cutD (t.1.map eW) none (some (x : Int))))) ?_ (by rw [cut_upto, List.map_take])
          walk_at "go"
        · walk_at "go"
        · rw [List.length_map, List.length_take]; show _ + 1 ≤ 1000000; omega
        · refine ev_is (r := .dat (.tuple (cutD (t.1.map eW) (some ((x + 1 : Nat) : Int)) none))) (x_sl (R := dSl) (a := .dat (eWs t.1)) (l := some ((x + 1 : Nat) : Int)) ?_ (xo_some (ev_is (r := .dat (.int ((x : Int) + 1))) ?_ rfl)) ?_ rfl) (by rw [cut_from, List.map_drop])
          · walk_at "go"
          · walk_at "go"
          · walk_at "go"
        · rw [List.length_append, List.length_map, List.length_map, List.length_take, List.length_drop]; show _ + 1 + _ ≤ 1000000; omega
        · show _ = RD.dat (.tuple (List.map eW _))
          rw [List.map_append, List.map_append]
          rfl
      apply y_skip (b := false)
      · refine xt_test (x_op (R := dIs true) (a := .dat .none) (b := .dat .none) (x_op (R := dIx) (a := .dat (eSure (some ((List.range b.length).map (sureAt (t :: ts)))))) (b := .dat (eN x)) ?_ ?_ ⟨.none, ?_, rfl⟩) ?_ rfl)
        · walk_at "go"
        · walk_at "go"
        · have e : ((List.range b.length).map (sureAt (t :: ts)))[x]? = some none := by
            rw [List.getElem?_map, List.getElem?_range hxl]
            exact congrArg some (hsu x hxm)
          exact at_map (f := eWO) e
        · walk_at "go"
      · rfl
      apply y_skipE (b := !decide ((endOf (byWays b (flipAt t.1 x)) t.2.1 r).isSome = true))
      · refine xt_test (x_op (R := dIs true) (a := .dat (.bool (endOf (byWays b (flipAt t.1 x)) t.2.1 r).isSome)) (b := .dat (.bool true)) (x_call (ds := [.dat (eB b), .dat (eR r), .dat (.tuple [eWs (flipAt t.1 x), eS t.2.1])]) ?_ (r_is_story b r (flipAt t.1 x) t.2.1 ⟨h1, h2, k1, hstand⟩)) ?_ rfl) <;> walk_at "go"
      · rw [show endOf (byWays b (flipAt t.1 x)) t.2.1 r = some t.2.2 from k3]
        rfl
      · exact ⟨rfl, _, _, _, rfl⟩
    · rintro G' M' ⟨rfl, g1, g2, g3, rfl⟩
      apply y_ret
      · walk_at "go"
      · rfl
end
end Wk
end
section
set_option Elab.async false
set_option linter.all false
set_option autoImplicit false
set_option maxRecDepth 100000
set_option maxHeartbeats 4000000
namespace Wk
open PySem L2 Wp Wm
/-! ### the words of the evaluation -/
local macro_rules | `(tactic| walk_at "sd") => `(tactic| first
  | assumption
  | exact trivial
  | exact rfl
  | omega
  | (refine ⟨?_, ?_⟩ <;> (walk_at "sd")))
local macro_rules | `(tactic| walk_at "g1") => `(tactic| first
  | ((with_reducible apply ev_var); exact rfl)
  | with_reducible exact ev_int
  | with_reducible exact ev_str
  | with_reducible exact ev_bl
  | with_reducible exact ev_non
  | with_reducible exact ev_raw
  | exact ev_int
  | with_reducible exact xa_nil
  | with_reducible exact xd_nil
  | with_reducible exact eo_none
  | with_reducible apply x_op
  | with_reducible apply x_cb
  | with_reducible apply x_call
  | with_reducible apply x_tup
  | with_reducible apply x_lst
  | with_reducible apply xa_cons
  | with_reducible apply xd_cons
  | with_reducible apply xo_some
  | with_reducible apply x_un
  | with_reducible apply x_sl
  | with_reducible apply x_if
  | with_reducible apply x_and
  | with_reducible apply x_or
  | with_reducible apply x_not
  | with_reducible apply x_chain
  | with_reducible apply xt_test
  | with_reducible apply xt_B
  | with_reducible apply xt_not
  | with_reducible apply xt_and
  | with_reducible apply xt_or
  | ((with_reducible refine fun _ => ?_); first | with_reducible show EvG _ _ _ _ _ _ _ | with_reducible show EtG _ _ _ _ _ _ _)
  | ((with_reducible refine fun _ _ => ?_); first | with_reducible show TgW _ _ _ _ _ _ | with_reducible show EvG _ _ _ _ _ _ _ | with_reducible show EtG _ _ _ _ _ _ _)
  | exact rfl
  | assumption
  | exact ⟨_, rfl, rfl⟩
  | exact ⟨_, by assumption, rfl⟩
  | exact ⟨trivial, rfl⟩
  | exact Or.inl rfl
  | exact ⟨rfl, rfl, rfl⟩
  | exact ⟨by decide, rfl⟩
  | exact ⟨by assumption, rfl⟩
  | exact ⟨rfl, by assumption⟩
  | exact ⟨rfl, by decide⟩
  | (show List.length _ ≤ 1000; exact Nat.le_of_ble_eq_true rfl)
  | fail "open")
local macro_rules | `(tactic| walk_at "go") => `(tactic| repeat' (walk_at "g1"))
local macro_rules | `(tactic| walk_at "g1") => `(tactic| ((with_reducible apply ix_pin); (try (walk_at "sd"))))
local macro_rules | `(tactic| walk_at "g1") => `(tactic| first
  | with_reducible exact tw_name
  | with_reducible apply tw_tup
  | with_reducible exact tws_nil
  | with_reducible apply tws_cons
  | with_reducible exact tg_name
  | with_reducible apply tg_tup
  | with_reducible exact tgs_nil
  | with_reducible apply tgs_cons
  | with_reducible exact r_all _ _
  | with_reducible exact r_sum _ _
  | with_reducible exact r_len _
  | with_reducible exact r_lenT _)
local macro_rules | `(tactic| walk_at "g1") => `(tactic| first
  | with_reducible exact dEq_wayL _
  | with_reducible exact dEq_wordA _
  | with_reducible exact dEq_wordB _
  | with_reducible exact dEq_int _ _
  | with_reducible exact dNe_int _ _
  | with_reducible exact dEq_bool _ _
  | with_reducible exact r_all2 _ _ _
  | with_reducible exact dIn_nats _ _
  | with_reducible exact dNotIn_nats _ _)
local macro_rules | `(tactic| walk_at "g1") => `(tactic| first
  | ((with_reducible apply dMod_at); (walk_at "sd"))
  | ((with_reducible apply dDiv_at); (walk_at "sd"))
  | ((with_reducible apply dMul_at); (walk_at "sd")))

section
variable {P : Program} {w : World} {K : PySem.W.Frag} {mg : Str → Option Value} {base : Heap}
local macro_rules | `(tactic| walk_at "g1") => `(tactic| ((with_reducible apply r_is_whole); (try (walk_at "sd"))))
local macro_rules | `(tactic| walk_at "g1") => `(tactic| ((with_reducible apply r_is_within); (try (walk_at "sd"))))
local macro_rules | `(tactic| walk_at "g1") => `(tactic| ((with_reducible apply r_is_long); (try (walk_at "sd"))))
local macro_rules | `(tactic| walk_at "g1") => `(tactic| ((with_reducible apply r_rises); (try (walk_at "sd"))))
local macro_rules | `(tactic| walk_at "g1") => `(tactic| ((with_reducible apply r_is_way); (try (walk_at "sd"))))
local macro_rules | `(tactic| walk_at "g1") => `(tactic| ((with_reducible apply r_other_way); (try (walk_at "sd"))))
local macro_rules | `(tactic| walk_at "g1") => `(tactic| ((with_reducible apply r_is_pin_by); (try (walk_at "sd"))))
local macro_rules | `(tactic| walk_at "g1") => `(tactic| ((with_reducible apply r_cross); (try (walk_at "sd"))))
local macro_rules | `(tactic| walk_at "g1") => `(tactic| ((with_reducible apply r_between); (try (walk_at "sd"))))
local macro_rules | `(tactic| walk_at "g1") => `(tactic| ((with_reducible apply r_pairs_of); (try (walk_at "sd"))))
local macro_rules | `(tactic| walk_at "g1") => `(tactic| ((with_reducible apply r_is_board); (try (walk_at "sd"))))
local macro_rules | `(tactic| walk_at "g1") => `(tactic| ((with_reducible apply r_need_board); (try (walk_at "sd"))))
local macro_rules | `(tactic| walk_at "g1") => `(tactic| ((with_reducible apply r_need_pins); (try (walk_at "sd"))))
local macro_rules | `(tactic| walk_at "g1") => `(tactic| ((with_reducible apply r_with_ways_by); (try (walk_at "sd"))))
local macro_rules | `(tactic| walk_at "g1") => `(tactic| ((with_reducible apply r_with_ways); (try (walk_at "sd"))))
local macro_rules | `(tactic| walk_at "g1") => `(tactic| ((with_reducible apply r_mirrored); (try (walk_at "sd"))))
local macro_rules | `(tactic| walk_at "g1") => `(tactic| ((with_reducible apply r_other_word); (try (walk_at "sd"))))
local macro_rules | `(tactic| walk_at "g1") => `(tactic| ((with_reducible apply r_turned_about); (try (walk_at "sd"))))
local macro_rules | `(tactic| walk_at "g1") => `(tactic| ((with_reducible apply r_is_stand_by); (try (walk_at "sd"))))
local macro_rules | `(tactic| walk_at "g1") => `(tactic| ((with_reducible apply r_need_stand); (try (walk_at "sd"))))
local macro_rules | `(tactic| walk_at "g1") => `(tactic| ((with_reducible apply r_look_of); (try (walk_at "sd"))))
local macro_rules | `(tactic| walk_at "g1") => `(tactic| ((with_reducible apply r_met_first); (try (walk_at "sd"))))
local macro_rules | `(tactic| walk_at "g1") => `(tactic| ((with_reducible apply r_beside); (try (walk_at "sd"))))
local macro_rules | `(tactic| walk_at "g1") => `(tactic| ((with_reducible apply r_beat_by); (try (walk_at "sd"))))
local macro_rules | `(tactic| walk_at "g1") => `(tactic| ((with_reducible apply r_beat); (try (walk_at "sd"))))
local macro_rules | `(tactic| walk_at "g1") => `(tactic| ((with_reducible apply r_all_stands); (try (walk_at "sd"))))
local macro_rules | `(tactic| walk_at "g1") => `(tactic| ((with_reducible apply r_need_row); (try (walk_at "sd"))))
local macro_rules | `(tactic| walk_at "g1") => `(tactic| ((with_reducible apply r_need_seen); (try (walk_at "sd"))))
local macro_rules | `(tactic| walk_at "g1") => `(tactic| ((with_reducible apply r_by_ways); (try (walk_at "sd"))))
local macro_rules | `(tactic| walk_at "g1") => `(tactic| ((with_reducible apply r_all_ways); (try (walk_at "sd"))))
local macro_rules | `(tactic| walk_at "g1") => `(tactic| ((with_reducible apply r_end_of); (try (walk_at "sd"))))
local macro_rules | `(tactic| walk_at "g1") => `(tactic| ((with_reducible apply r_stories); (try (walk_at "sd"))))
local macro_rules | `(tactic| walk_at "g1") => `(tactic| ((with_reducible apply r_many_stories); (try (walk_at "sd"))))
local macro_rules | `(tactic| walk_at "g1") => `(tactic| ((with_reducible apply r_some_story); (try (walk_at "sd"))))
local macro_rules | `(tactic| walk_at "g1") => `(tactic| ((with_reducible apply r_is_story); (try (walk_at "sd"))))
local macro_rules | `(tactic| walk_at "g1") => `(tactic| ((with_reducible apply r_next_pins); (try (walk_at "sd"))))
local macro_rules | `(tactic| walk_at "g1") => `(tactic| ((with_reducible apply r_sure_ways); (try (walk_at "sd"))))
local macro_rules | `(tactic| walk_at "g1") => `(tactic| ((with_reducible apply r__law_cell_at); (try (walk_at "sd"))))
local macro_rules | `(tactic| walk_at "g1") => `(tactic| ((with_reducible apply r__law_pen); (try (walk_at "sd"))))
local macro_rules | `(tactic| walk_at "g1") => `(tactic| ((with_reducible apply r__law_draw); (try (walk_at "sd"))))
local macro_rules | `(tactic| walk_at "g1") => `(tactic| ((with_reducible apply r__law_pick); (try (walk_at "sd"))))
local macro_rules | `(tactic| walk_at "g1") => `(tactic| ((with_reducible apply r__law_cross); (try (walk_at "sd"))))
local macro_rules | `(tactic| walk_at "g1") => `(tactic| ((with_reducible apply r__law_far); (try (walk_at "sd"))))
local macro_rules | `(tactic| walk_at "g1") => `(tactic| ((with_reducible apply r__law_fits); (try (walk_at "sd"))))
local macro_rules | `(tactic| walk_at "g1") => `(tactic| ((with_reducible apply r__law_board); (try (walk_at "sd"))))
local macro_rules | `(tactic| walk_at "g1") => `(tactic| ((with_reducible apply r__law_stands); (try (walk_at "sd"))))
local macro_rules | `(tactic| walk_at "g1") => `(tactic| ((with_reducible apply r__law_turned_ways); (try (walk_at "sd"))))
local macro_rules | `(tactic| walk_at "g1") => `(tactic| ((with_reducible apply r__law_row); (try (walk_at "sd"))))
local macro_rules | `(tactic| walk_at "g1") => `(tactic| ((with_reducible apply r__law_free_right); (try (walk_at "sd"))))
def F__law_mirror_right : List RD → RD → Prop := fun aa zz => ∃ (b : Board) (r : List Nat), (Valid b ∧ RowOk b r ∧ b.length ≤ 5) ∧ aa = [.dat (eB b), .dat (eR r)] ∧ zz = .dat (.bool true)
theorem r__law_mirror_right (b : Board) (r : List Nat) (hc : Valid b ∧ RowOk b r ∧ b.length ≤ 5) : F__law_mirror_right [.dat (eB b), .dat (eR r)] (.dat (.bool true)) := ⟨b, r, hc, rfl, rfl⟩
abbrev sp__law_mirror_right (K : PySem.W.Frag) : Sp := spD K F__law_mirror_right
local macro_rules | `(tactic| walk_at "g1") => `(tactic| ((with_reducible apply r__law_mirror_right); (try (walk_at "sd"))))
theorem sc__law_mirror_right : FnScope ["_law_board_here", "_law_row_here", "_law_glass", "_law_sure"] ["_law_board_here", "_law_row_here"] (defScope s__law_mirror_right) := ⟨rfl, rfl, rfl, by decide +kernel, rfl, by decide +kernel, by decide +kernel⟩
-- slots: 0 _law_board_here, 1 _law_row_here, 2 _law_glass, 3 _law_sure
theorem df__law_mirror_right (T : Tx K mg) (df__law_turned_ways : Df P w K mg base "_law_turned_ways" 1 ["_law_ways"] (sp__law_turned_ways K)) (df_many_stories : Df P w K mg base "many_stories" 7 ["board", "row"] (sp_many_stories K)) (df_mirrored : Df P w K mg base "mirrored" 6 ["board"] (sp_mirrored K)) (df_next_pins : Df P w K mg base "next_pins" 7 ["board", "row"] (sp_next_pins K)) (df_sure_ways : Df P w K mg base "sure_ways" 7 ["board", "row"] (sp_sure_ways K)) : Df P w K mg base "_law_mirror_right" 8 ["_law_board_here", "_law_row_here"] (sp__law_mirror_right K) := by
  obtain ⟨f, fd, hm, F⟩ := T.d__law_mirror_right
  refine ⟨f, fd, hm, F.kp, F.binds (ps := ["_law_board_here", "_law_row_here"]) (fun _ _ _ _ _ _ us hl => match us, hl with | [_, _], _ => rfl), F.ok sc__law_mirror_right (fun vs H Q E h => ?_) (fun cdv A outer s H vs Q E hr h => ?_)⟩
  · obtain ⟨H0, aa, zz, s0, hd, ⟨b, r, hc, rfl, rfl⟩, q⟩ := h
    exact hd.length
  obtain ⟨H0, aa, zz, s0, hd, ⟨b, r, hc, rfl, rfl⟩, q⟩ := h
  refine ⟨_, (pss_cons (ps_par (i := 2) (j := 3) (by rfl) sc__law_mirror_right.nd rfl rfl (by decide) rfl rfl (pa_cons (pe_df df_mirrored (hr.mono (by decide)) (by rfl) (pa_cons (pv 0) pa_nil)) (pa_cons (pe_df df_sure_ways (hr.mono (by decide)) (by rfl) (pa_cons (pv 0) (pa_cons (pv 1) pa_nil))) pa_nil)) (by rfl)) (pss_cons (ps_if (PW.pt (pw_or (pt_cmpR (oK (oD_ne hr.units) (K := K)) (pe_df df_many_stories (hr.mono (by decide)) (by rfl) (pa_cons (pv 2) (pa_cons (pv 1) pa_nil))) (pe_df df_many_stories (hr.mono (by decide)) (by rfl) (pa_cons (pv 0) (pa_cons (pv 1) pa_nil))) (nomark _)) (pw_or1 (pt_cmpR (oK (oD_ne hr.units) (K := K)) (pe_df df_next_pins (hr.mono (by decide)) (by rfl) (pa_cons (pv 2) (pa_cons (pv 1) pa_nil))) (pe_df df_next_pins (hr.mono (by decide)) (by rfl) (pa_cons (pv 0) (pa_cons (pv 1) pa_nil))) (nomark _))))) (pss_one (ps_ret pe_bl)) pss_nil) (pss_one (ps_ret (pe_cmpR (oK (oD_eq hr.units) (K := K)) (pe_df df_sure_ways (hr.mono (by decide)) (by rfl) (pa_cons (pv 2) (pa_cons (pv 1) pa_nil))) (pe_ifExp (pt_cmpR (oK oD_is (K := K)) (pv 3) pe_non (nomark _)) pe_non (pe_df df__law_turned_ways (hr.mono (by decide)) (by rfl) (pa_cons (pv 3) pa_nil))) (nomark _)))))), ?_⟩
  refine body_end s0 hd q ?_
  obtain ⟨h1, h2, h3⟩ := hc
  have hr := h2.2.2
  have hg := mirrored_valid h1
  have hgl := mirrored_length b
  have hg5 : (Wm.mirrored b).length ≤ 5 := by omega
  have hgr : RowOk (Wm.mirrored b) r := ⟨h2.1, h2.2.1, by rw [hgl]; exact hr⟩
  have e1 := mirror_count h1 hr
  have e2 := mirror_next h1 hr
  have e3 := mirror_sure h1 hr
  apply y_par1 (r := .dat (eB (Wm.mirrored b))) (r' := .dat (eSure (sure b r)))
  · walk_at "go"
  apply y_skip (b := !decide ((Wm.stories (Wm.mirrored b) r).length = (Wm.stories b r).length) || false)
  · refine xt_or (xt_test (x_op (R := dEq true) (a := .dat (eN (Wm.stories (Wm.mirrored b) r).length)) (b := .dat (eN (Wm.stories b r).length)) ?_ ?_ (dNe_nat _ _))) fun _ => xt_test (x_op (R := dEq true) (a := .dat (eR (nextPins b r))) (b := .dat (eR (nextPins b r))) (ev_is (r := .dat (eR (nextPins (Wm.mirrored b) r))) ?_ (by rw [e2])) ?_ (dNe_same (shaped_R _)))
    · walk_at "go"
    · walk_at "go"
    · walk_at "go"
    · walk_at "go"
  · rw [e1, decide_eq_true rfl]
    rfl
  refine y_ret (r := .dat (.bool true)) (x_op (R := dEq false) (a := .dat (eSure (sure (Wm.mirrored b) r))) (b := .dat (eSure (sure (Wm.mirrored b) r))) ?_ ?_ (dEq_same (shaped_sure _))) rfl
  · walk_at "go"
  · rw [e3]
    cases hs : sure b r with
    | none =>
      apply x_ifT
      · refine xt_test (x_op (R := dIs false) (a := .dat (eSure none)) (b := .dat .none) (by rw [← hs]; walk_at "go") ?_ (dIs_sure false none))
        walk_at "go"
      · show EvG _ _ _ _ _ (.dat .none) _
        walk_at "go"
    | some l =>
      have hl : l.length ≤ 100 := by
        rw [sure_eq] at hs
        split at hs
        · cases hs
        · rw [← Option.some.inj hs, List.length_map, List.length_range]; omega
      apply x_ifF
      · refine xt_test (x_op (R := dIs false) (a := .dat (eSure (some l))) (b := .dat .none) (by rw [← hs]; walk_at "go") ?_ (dIs_sure false (some l)))
        walk_at "go"
      · refine x_call (ds := [.dat (.tuple (l.map eWO))]) (xa_cons (ev_var rfl) xa_nil) (r__law_turned_ways l hl)
theorem outs_names (pen : Pen) (n : Nat) : ∀ k, outs (fun i => some (eN ((nameRun pen n i).2.1.getD (drawN (nameRun pen n i).1 (nameRun pen n i).2.1.length) 0))) k = (nameRun pen n k).2.2.map eN
  | 0 => rfl
  | k + 1 => by
    rw [outs_succ, outs_names pen n k]
    show _ = ((nameRun pen n k).2.2 ++ [_]).map eN
    rw [List.map_append]
    rfl
def F__law_called_right : List RD → List PyData → RD → List PyData → Prop := fun aa ss zz s2 => ∃ (pen : Pen) (b : Board) (r : List Nat), (PenOk pen ∧ Valid b ∧ RowOk b r ∧ b.length ≤ 5) ∧ aa = [.dat (eB b), .dat (eR r)] ∧ ss = ePen pen ∧ zz = .dat (.bool true) ∧ s2 = ePen (namesPen pen b.length)
theorem r__law_called_right (pen : Pen) (b : Board) (r : List Nat) (hc : PenOk pen ∧ Valid b ∧ RowOk b r ∧ b.length ≤ 5) : F__law_called_right [.dat (eB b), .dat (eR r)] (ePen pen) (.dat (.bool true)) (ePen (namesPen pen b.length)) := ⟨pen, b, r, hc, rfl, rfl, rfl, rfl⟩
abbrev sp__law_called_right (K : PySem.W.Frag) : Sp := spO K F__law_called_right
local macro_rules | `(tactic| walk_at "g1") => `(tactic| ((with_reducible apply r__law_called_right); (try (walk_at "sd"))))
theorem sc__law_called_right : FnScope ["_law_pen_here", "_law_board_here", "_law_row_here", "_law_left", "_law_names", "_law_other", "_law_called", "_law_sure", "_law_its", "_law_pin", "_law_at"] ["_law_pen_here", "_law_board_here", "_law_row_here"] (defScope s__law_called_right) := ⟨rfl, rfl, rfl, by decide +kernel, rfl, by decide +kernel, by decide +kernel⟩
-- slots: 0 _law_pen_here, 1 _law_board_here, 2 _law_row_here, 3 _law_left, 4 _law_names, 5 _law_other, 6 _law_called, 7 _law_sure, 8 _law_its, 9 _law_pin, 10 _law_at
theorem df__law_called_right (T : Tx K mg) (df__law_draw : Df P w K mg base "_law_draw" 1 ["_law_pen_here", "_law_many"] (sp__law_draw K)) (df_many_stories : Df P w K mg base "many_stories" 7 ["board", "row"] (sp_many_stories K)) (df_next_pins : Df P w K mg base "next_pins" 7 ["board", "row"] (sp_next_pins K)) (df_sure_ways : Df P w K mg base "sure_ways" 7 ["board", "row"] (sp_sure_ways K)) : Df P w K mg base "_law_called_right" 8 ["_law_pen_here", "_law_board_here", "_law_row_here"] (sp__law_called_right K) := by
  obtain ⟨f, fd, hm, F⟩ := T.d__law_called_right
  refine ⟨f, fd, hm, F.kp, F.binds (ps := ["_law_pen_here", "_law_board_here", "_law_row_here"]) (fun _ _ _ _ _ _ us hl => match us, hl with | [_, _, _], _ => rfl), F.ok sc__law_called_right (fun vs H Q E h => ?_) (fun cdv A outer s H vs Q E hr h => ?_)⟩
  · obtain ⟨pp, H0, rest, aa, ss, zz, s2, hv, s0, mk, hd, ⟨pen, b, r, hc, rfl, rfl, rfl, rfl⟩, q⟩ := h
    rw [hv]
    exact congrArg (· + 1) hd.length
  obtain ⟨pp, H0, rest, aa, ss, zz, s2, hv, s0, mk, hd, ⟨pen, b, r, hc, rfl, rfl, rfl, rfl⟩, q⟩ := h
  refine ⟨_, (pss_cons (ps_asg (pe_listRg rfl (by rfl) T.z_list (prg_1 (by rfl) T.z_range (pe_callB (cK cD_lenA (K := K) (R' := fLenA P w)) (by rfl) T.z_len (by decide +kernel) (pa_cons (pv 1) pa_nil)))) (pg_name (i := 3) sc__law_called_right.nd rfl (by first | exact Or.inl rfl | exact Or.inr rfl))) (pss_cons (ps_asg (pe_lc (own := [("_law_pin", 9)]) (g := (gName 9)) (tt := tYes) rfl sc__law_called_right.nd (pi_range1 (by rfl) T.z_range (pa_cons (pe_callB (cK cD_lenA (K := K) (R' := fLenA P w)) (by rfl) T.z_len (by decide +kernel) (pa_cons (pv 1) pa_nil)) pa_nil)) (blkOk_by (show blkC ["_law_pen_here", "_law_board_here", "_law_row_here", "_law_left", "_law_names", "_law_other", "_law_called", "_law_sure", "_law_its", "_law_pin", "_law_at"] (defScope s__law_called_right) _ _ = true by decide +kernel)) (fun _ _ _ _ _ => (pg_name (i := 9) sc__law_called_right.nd rfl (by first | exact Or.inl rfl | exact Or.inr rfl))) (fun _ _ _ _ _ => pts_nil) (fun _ _ _ _ _ => (bmK (pe_bm PySem.F.plainAttrs_list PySem.F.slot_list_pop PySem.F.type_list_pop mt_popAt (pv 3) (pa_cons (pe_df df__law_draw (hr.mono (by decide)) (by rfl) (pa_cons (pv 0) (pa_cons (pe_callB (cK cD_lenA (K := K) (R' := fLenA P w)) (by rfl) T.z_len (by decide +kernel) (pa_cons (pv 3) pa_nil)) pa_nil))) pa_nil)) (K := K)))) (pg_name (i := 4) sc__law_called_right.nd rfl (by first | exact Or.inl rfl | exact Or.inr rfl))) (pss_cons (ps_asg (pe_callTy (cK cD_tuple (K := K)) (by rfl) T.z_tuple (by decide +kernel) (pa_cons (pe_lc (own := [("_law_at", 10)]) (g := (gName 10)) (tt := tYes) rfl sc__law_called_right.nd (pi_range1 (by rfl) T.z_range (pa_cons (pe_callB (cK cD_lenA (K := K) (R' := fLenA P w)) (by rfl) T.z_len (by decide +kernel) (pa_cons (pv 1) pa_nil)) pa_nil)) (blkOk_by (show blkC ["_law_pen_here", "_law_board_here", "_law_row_here", "_law_left", "_law_names", "_law_other", "_law_called", "_law_sure", "_law_its", "_law_pin", "_law_at"] (defScope s__law_called_right) _ _ = true by decide +kernel)) (fun _ _ _ _ _ => (pg_name (i := 10) sc__law_called_right.nd rfl (by first | exact Or.inl rfl | exact Or.inr rfl))) (fun _ _ _ _ _ => pts_nil) (fun _ _ _ _ _ => (pe_ix (xK ixD (K := K)) (pv 1) (bmK (pe_bm PySem.F.plainAttrs_list PySem.F.slot_list_index PySem.F.type_list_index (mK (mD_index (u65 hr)) (K := K)) (pv 4) (pa_cons (pv 10) pa_nil)) (K := K)) (fun _ _ => rfl)))) pa_nil)) (pg_name (i := 5) sc__law_called_right.nd rfl (by first | exact Or.inl rfl | exact Or.inr rfl))) (pss_cons (ps_asg (pe_callTy (cK cD_tuple (K := K)) (by rfl) T.z_tuple (by decide +kernel) (pa_cons (pe_lc (own := [("_law_pin", 9)]) (g := (gName 9)) (tt := tYes) rfl sc__law_called_right.nd (kSeq (pv 2) (K := K)) (blkOk_by (show blkC ["_law_pen_here", "_law_board_here", "_law_row_here", "_law_left", "_law_names", "_law_other", "_law_called", "_law_sure", "_law_its", "_law_pin", "_law_at"] (defScope s__law_called_right) _ _ = true by decide +kernel)) (fun _ _ _ _ _ => (pg_name (i := 9) sc__law_called_right.nd rfl (by first | exact Or.inl rfl | exact Or.inr rfl))) (fun _ _ _ _ _ => pts_nil) (fun _ _ _ _ _ => (pe_ix (xK ixD (K := K)) (pv 4) (pv 9) (fun _ _ => rfl)))) pa_nil)) (pg_name (i := 6) sc__law_called_right.nd rfl (by first | exact Or.inl rfl | exact Or.inr rfl))) (pss_cons (ps_if (pt_cmpR (oK (oD_ne hr.units) (K := K)) (pe_df df_many_stories (hr.mono (by decide)) (by rfl) (pa_cons (pv 5) (pa_cons (pv 6) pa_nil))) (pe_df df_many_stories (hr.mono (by decide)) (by rfl) (pa_cons (pv 1) (pa_cons (pv 2) pa_nil))) (nomark _)) (pss_one (ps_ret pe_bl)) pss_nil) (pss_cons (ps_if (pt_cmpR (oK (oD_ne hr.units) (K := K)) (pe_df df_next_pins (hr.mono (by decide)) (by rfl) (pa_cons (pv 5) (pa_cons (pv 6) pa_nil))) (pe_callTy (cK cD_tuple (K := K)) (by rfl) T.z_tuple (by decide +kernel) (pa_cons (pe_callB (cK (cD_sorted rfl) (K := K) (R' := fSorted w)) (by rfl) T.z_sorted (by decide +kernel) (pa_cons (pe_lc (own := [("_law_pin", 9)]) (g := (gName 9)) (tt := tYes) rfl sc__law_called_right.nd (kSeq (pe_df df_next_pins (hr.mono (by decide)) (by rfl) (pa_cons (pv 1) (pa_cons (pv 2) pa_nil))) (K := K)) (blkOk_by (show blkC ["_law_pen_here", "_law_board_here", "_law_row_here", "_law_left", "_law_names", "_law_other", "_law_called", "_law_sure", "_law_its", "_law_pin", "_law_at"] (defScope s__law_called_right) _ _ = true by decide +kernel)) (fun _ _ _ _ _ => (pg_name (i := 9) sc__law_called_right.nd rfl (by first | exact Or.inl rfl | exact Or.inr rfl))) (fun _ _ _ _ _ => pts_nil) (fun _ _ _ _ _ => (pe_ix (xK ixD (K := K)) (pv 4) (pv 9) (fun _ _ => rfl)))) pa_nil)) pa_nil)) (nomark _)) (pss_one (ps_ret pe_bl)) pss_nil) (pss_cons (ps_asg (pe_tup (pa_cons (pe_df df_sure_ways (hr.mono (by decide)) (by rfl) (pa_cons (pv 1) (pa_cons (pv 2) pa_nil))) (pa_cons (pe_df df_sure_ways (hr.mono (by decide)) (by rfl) (pa_cons (pv 5) (pa_cons (pv 6) pa_nil))) pa_nil))) (kTup (K := K) 2 rfl (pgs_cons (pg_name (i := 7) sc__law_called_right.nd rfl (by first | exact Or.inl rfl | exact Or.inr rfl)) (pgs_cons (pg_name (i := 8) sc__law_called_right.nd rfl (by first | exact Or.inl rfl | exact Or.inr rfl)) pgs_nil)))) (pss_cons (ps_if (PW.pt (pw_or (pt_cmpR (oK oD_is (K := K)) (pv 7) pe_non (nomark _)) (pw_or1 (pt_cmpR (oK oD_is (K := K)) (pv 8) pe_non (nomark _))))) (pss_one (ps_ret (pe_and (pe_cmpR (oK oD_is (K := K)) (pv 7) pe_non (nomark _)) (pe_one (pe_cmpR (oK oD_is (K := K)) (pv 8) pe_non (nomark _)))))) pss_nil) (pss_one (ps_ret (pe_cmpR (oK (oD_eq hr.units) (K := K)) (pe_lc (own := [("_law_pin", 9)]) (g := (gName 9)) (tt := tYes) rfl sc__law_called_right.nd (pi_range1 (by rfl) T.z_range (pa_cons (pe_callB (cK cD_lenA (K := K) (R' := fLenA P w)) (by rfl) T.z_len (by decide +kernel) (pa_cons (pv 1) pa_nil)) pa_nil)) (blkOk_by (show blkC ["_law_pen_here", "_law_board_here", "_law_row_here", "_law_left", "_law_names", "_law_other", "_law_called", "_law_sure", "_law_its", "_law_pin", "_law_at"] (defScope s__law_called_right) _ _ = true by decide +kernel)) (fun _ _ _ _ _ => (pg_name (i := 9) sc__law_called_right.nd rfl (by first | exact Or.inl rfl | exact Or.inr rfl))) (fun _ _ _ _ _ => pts_nil) (fun _ _ _ _ _ => (pe_ix (xK ixD (K := K)) (pv 8) (pe_ix (xK ixD (K := K)) (pv 4) (pv 9) (fun _ _ => rfl)) (fun _ _ => rfl)))) (pe_callTy (cK cD_list (K := K)) (by rfl) T.z_list (by decide +kernel) (pa_cons (pv 7) pa_nil)) (nomark _)))))))))))), ?_⟩
  refine body_endO s0 hv mk hd q ?_
  obtain ⟨h0, h1, h2, h3⟩ := hc
  have hr := h2.2.2
  have hrun := nameRun_ok h0 b.length
  obtain ⟨hp, hpk⟩ := names_perm h0 b.length
  refine sv_newF (ds := (List.range b.length).map eN) (M1 := [.lst (ePen pen)]) (new_lstRg (n := b.length) ?_ (by unfold big; omega)) fun p => ?_
  · walk_at "go"
  · have hiv : IvG K ([pp] ++ [p]) (iRng1 (tCons (tCB (rDs K (fLenA P w)) (tCons (tVar 1) tNil)) tNil)) ([some (.raw (.ref pp)), some (.dat (eB b)), some (.dat (eR r)), some (.raw (.ref p)), none, none, none, none, none, none, none] : Wp.Env) [.lst (ePen pen), .lst ((List.range b.length).map eN)] ((List.range b.length).map fun i => RD.dat (eN i)) [.lst (ePen pen), .lst ((List.range b.length).map eN)] := by
      apply xi_rngN
      · walk_at "go"
      · omega
    have hlc := ev_lc (K := K) (ps := [pp] ++ [p]) (g := gName 9) (tt := tYes) (te := tBM K "list" rPopAt (tVar 3) (tCons (tCall (sp__law_draw K) [] E0 (tCons (tVar 0) (tCons (tCB (rDs K (fLenA P w)) (tCons (tVar 3) tNil)) tNil))) tNil)) (vs := [9]) hiv (fun k => [Mu.lst (ePen (nameRun pen b.length k).1), .lst ((nameRun pen b.length k).2.1.map eN)]) (fun k => some (eN ((nameRun pen b.length k).2.1.getD (drawN (nameRun pen b.length k).1 (nameRun pen b.length k).2.1.length) 0))) rfl ?_ (by rw [List.length_map, List.length_range]; omega)
    · rw [List.length_map, List.length_range, outs_names] at hlc
      refine sv_set (M1 := [.lst (ePen (namesPen pen b.length)), .lst ((nameRun pen b.length b.length).2.1.map eN)]) (r := .dat (.list ((namesOf pen b.length).map eN))) hlc ?_
      refine ⟨[.lst (ePen (namesPen pen b.length))], _, rfl, rfl, ?_⟩
      generalize namesOf pen b.length = names at hp
      generalize namesPen pen b.length = pen2
      have hnl : names.length = b.length := by rw [hp.length_eq, List.length_range]
      have hnn : names.Nodup := hp.nodup_iff.mpr List.nodup_range
      have hcl : ∀ x, x < b.length → called names x < b.length := fun x hx => (called_get hp hx).2
      have hrv := renamed_valid h1 hp
      have hrl := renamed_length (b := b) (names := names)
      have hrr : RowOk (renamed b names) (r.map (called names)) := ⟨by rw [List.length_map]; exact h2.1, by rw [List.length_map]; exact h2.2.1, fun x hx => by
        obtain ⟨y, hy, rfl⟩ := List.mem_map.mp hx
        rw [hrl]
        exact hcl y (hr y hy)⟩
      have hcount := renamed_count h1 hp hr
      have hnext := renamed_next h1 hp hr
      have hsure := renamed_sure h1 hp hr
      have hcat : ∀ x, x < b.length → dIx (.dat (.list (names.map eN))) (.dat (eN x)) (.dat (eN (called names x))) := fun x hx => ⟨_, at_map (called_get hp hx).1, rfl⟩
      apply y_set1 (r := .dat (eB (renamed b names)))
      · refine x_cb (R := fTuple) (xa_cons (r := .dat (.list ((List.range b.length).map fun j => eP (pin b (callOf names j))))) ?_ xa_nil) ?_
        · apply x_lcM (List.range b.length) (fun j => RD.dat (eN j)) (fun j => eP (pin b (callOf names j)))
          · apply xi_rngN
            · walk_at "go"
            · omega
          · walk_at "go"
          · intro j hj
            obtain ⟨q1, q2⟩ := call_lt hp (List.mem_range.mp hj)
            refine x_op (R := dIx) (a := .dat (eB b)) (b := .dat (eN (callOf names j))) ?_ (x_mth (R := fIndex) (ds := names.map eN) (rs := [.dat (eN j)]) ?_ ?_ (index_nats names hnn q2)) (ix_pin q1)
            · walk_at "go"
            · walk_at "go"
            · walk_at "go"
          · rw [List.length_range]; omega
        · show RD.dat (.tuple ((renamed b names).map eP)) = _
          unfold renamed
          rw [List.map_map]
          rfl
      apply y_set1 (r := .dat (eR (r.map (called names))))
      · refine x_cb (R := fTuple) (xa_cons (r := .dat (.list (r.map fun x => eN (called names x)))) ?_ xa_nil) ?_
        · apply x_lcM r (fun x => RD.dat (eN x)) (fun x => eN (called names x))
          · apply xi_tupE
            walk_at "go"
          · walk_at "go"
          · intro x hx
            refine x_op (R := dIx) (a := .dat (.list (names.map eN))) (b := .dat (eN x)) ?_ ?_ (hcat x (hr x hx)) <;> walk_at "go"
          · have := h2.2.1; omega
        · show RD.dat (.tuple ((r.map (called names)).map eN)) = _
          rw [List.map_map]
          rfl
      have hr5 : (renamed b names).length ≤ 5 := by omega
      generalize hB : renamed b names = B at *
      generalize hR : r.map (called names) = R at *
      apply y_skip (b := !decide ((Wm.stories B R).length = (Wm.stories b r).length))
      · refine xt_test (x_op (R := dEq true) (a := .dat (eN (Wm.stories B R).length)) (b := .dat (eN (Wm.stories b r).length)) ?_ ?_ (dNe_nat _ _)) <;> walk_at "go"
      · rw [hcount, decide_eq_true rfl]; rfl
      apply y_skip (b := false)
      · refine xt_test (x_op (R := dEq true) (a := .dat (eR (nextPins B R))) (b := .dat (eR (nextPins B R))) ?_ (x_cb (R := fTuple) (xa_cons (r := .dat (.list ((nextPins B R).map eN))) (x_cb (R := fSorted w) (xa_cons (r := .dat (.list (((nextPins b r).map (called names)).map eN))) ?_ xa_nil) (sorted_list _ _ ((next_rises B R).imp Nat.le_of_lt) hnext)) xa_nil) rfl) (dNe_same (shaped_R _)))
        · walk_at "go"
        · refine ev_is (r := .dat (.list ((nextPins b r).map fun x => eN (called names x)))) ?_ (by rw [List.map_map]; rfl)
          apply x_lcM (nextPins b r) (fun x => RD.dat (eN x)) (fun x => eN (called names x))
          · apply xi_tupE
            walk_at "go"
          · walk_at "go"
          · intro x hx
            have hx' : x < b.length := by unfold nextPins at hx; exact List.mem_range.mp (List.mem_filter.mp hx).1
            refine x_op (R := dIx) (a := .dat (.list (names.map eN))) (b := .dat (eN x)) ?_ ?_ (hcat x hx') <;> walk_at "go"
          · unfold nextPins
            exact Nat.le_trans (List.length_filter_le _ _) (by rw [List.length_range]; omega)
      · rfl
      apply y_asg1 (r := .dat (.tuple [eSure (sure b r), eSure (sure B R)]))
      · walk_at "go"
      · walk_at "go"
      rcases hsure with ⟨e1, e2⟩ | ⟨l, m, e1, e2, e3, e4, e5⟩
      · rw [e1, e2]
        apply y_take (b := true || (none : Option (List (Option Way))).isNone)
        · refine xt_or (xt_test (x_op (R := dIs false) (a := .dat (eSure none)) (b := .dat .none) ?_ ?_ (dIs_sure false none))) fun h => nomatch h
          · walk_at "go"
          · walk_at "go"
        · rfl
        refine y_ret (r := .dat (.bool (true && true))) (x_and (x_op (R := dIs false) (a := .dat (eSure none)) (b := .dat .none) ?_ ?_ (dIs_sure false none)) fun _ => x_op (R := dIs false) (a := .dat (eSure none)) (b := .dat .none) ?_ ?_ (dIs_sure false none)) rfl <;> walk_at "go"
      · rw [e1, e2]
        apply y_skip (b := (some l).isNone || (some m).isNone)
        · refine xt_or (xt_test (x_op (R := dIs false) (a := .dat (eSure (some l))) (b := .dat .none) ?_ ?_ (dIs_sure false (some l)))) fun _ => xt_test (x_op (R := dIs false) (a := .dat (eSure (some m))) (b := .dat .none) ?_ ?_ (dIs_sure false (some m))) <;> walk_at "go"
        · rfl
        refine y_ret (r := .dat (.bool true)) (x_op (R := dEq false) (a := .dat (.list (l.map eWO))) (b := .dat (.list (l.map eWO))) ?_ (x_cb (R := fList) (xa_cons (r := .dat (.tuple (l.map eWO))) (ev_var rfl) xa_nil) rfl) (dEq_same (shaped_list eWO 0 ok_WO (by decide) l))) rfl
        refine ev_is (r := .dat (.list ((List.range b.length).map fun i => eWO (m.getD (called names i) none)))) ?_ (by rw [← e5, List.map_map]; rfl)
        apply x_lcM (List.range b.length) (fun x => RD.dat (eN x)) (fun i => eWO (m.getD (called names i) none))
        · apply xi_rngN
          · walk_at "go"
          · omega
        · walk_at "go"
        · intro x hx
          have hx' := List.mem_range.mp hx
          have hcx := hcl x hx'
          refine x_op (R := dIx) (a := .dat (.tuple (m.map eWO))) (b := .dat (eN (called names x))) (ev_var rfl) (x_op (R := dIx) (a := .dat (.list (names.map eN))) (b := .dat (eN x)) ?_ ?_ (hcat x hx')) ⟨_, at_map (f := eWO) (x := m.getD (called names x) none) ?_, rfl⟩
          · walk_at "go"
          · walk_at "go"
          · rw [List.getD_eq_getElem?_getD, List.getElem?_eq_getElem (by omega)]
            rfl
        · rw [List.length_range]; omega
    · intro k rr hk
      have hk' : k < b.length := by
        have := (List.getElem?_eq_some_iff.mp hk).1
        rwa [List.length_map, List.length_range] at this
      obtain ⟨q1, q2, q3, q4⟩ := hrun k (by omega)
      have hpos : 0 < (nameRun pen b.length k).2.1.length := by omega
      have hlt := drawN_lt (nameRun pen b.length k).1 hpos
      refine ⟨_, tw_name (by decide), true, _, et_yes, fun _ => ⟨_, rfl, ?_⟩, fun h => nomatch h⟩
      refine ev_is (r := .dat (eN ((nameRun pen b.length k).2.1.getD (drawN (nameRun pen b.length k).1 (nameRun pen b.length k).2.1.length) 0))) ?_ rfl
      have hstep : [Mu.lst (ePen (nameRun pen b.length (k + 1)).1), .lst ((nameRun pen b.length (k + 1)).2.1.map eN)] = ([Mu.lst (ePen (drawP (nameRun pen b.length k).1 (nameRun pen b.length k).2.1.length)), .lst ((nameRun pen b.length k).2.1.map eN)].set 1 (.lst (((nameRun pen b.length k).2.1.map eN).eraseIdx (drawN (nameRun pen b.length k).1 (nameRun pen b.length k).2.1.length)))) := by
        show [Mu.lst (ePen (drawP _ _)), Mu.lst (List.map eN (List.eraseIdx _ _))] = [Mu.lst _, Mu.lst _]
        rw [List.eraseIdx_eq_take_drop_succ, List.eraseIdx_eq_take_drop_succ, List.map_append, List.map_take, List.map_drop]
      show EvG K _ _ _ [Mu.lst (ePen (nameRun pen b.length k).1), .lst ((nameRun pen b.length k).2.1.map eN)] _ [Mu.lst (ePen (nameRun pen b.length (k + 1)).1), .lst ((nameRun pen b.length (k + 1)).2.1.map eN)]
      rw [hstep]
      generalize nameRun pen b.length k = st at *
      obtain ⟨q, left, nms⟩ := st
      refine ev_popOwn (j := 1) (p := p) (ds := left.map eN) (k := drawN q left.length) (M1 := [.lst (ePen (drawP q left.length)), .lst (left.map eN)]) ?_ (ev_draw (ps := [pp] ++ [p]) (j := 0) rfl rfl rfl ?_ ⟨q1, hpos, by simp only at q2; omega⟩) rfl rfl rfl ?_ (by simp only at hlt q2; unfold big; omega)
      · walk_at "go"
      · refine ev_flat (i := 3) (j := 1) (p := p) (ds := left.map eN) ?_ rfl rfl rfl rfl
        walk_at "go"
      · rw [List.getElem?_map, List.getD_eq_getElem?_getD, List.getElem?_eq_getElem hlt]
        rfl
end
end Wk
end
section
set_option Elab.async false
set_option linter.all false
set_option autoImplicit false
set_option maxRecDepth 100000
set_option maxHeartbeats 4000000
namespace Wk
open PySem L2 Wp Wm
/-! ### the words of the evaluation -/
local macro_rules | `(tactic| walk_at "sd") => `(tactic| first
  | assumption
  | exact trivial
  | exact rfl
  | omega
  | (refine ⟨?_, ?_⟩ <;> (walk_at "sd")))
local macro_rules | `(tactic| walk_at "g1") => `(tactic| first
  | ((with_reducible apply ev_var); exact rfl)
  | with_reducible exact ev_int
  | with_reducible exact ev_str
  | with_reducible exact ev_bl
  | with_reducible exact ev_non
  | with_reducible exact ev_raw
  | exact ev_int
  | with_reducible exact xa_nil
  | with_reducible exact xd_nil
  | with_reducible exact eo_none
  | with_reducible apply x_op
  | with_reducible apply x_cb
  | with_reducible apply x_call
  | with_reducible apply x_tup
  | with_reducible apply x_lst
  | with_reducible apply xa_cons
  | with_reducible apply xd_cons
  | with_reducible apply xo_some
  | with_reducible apply x_un
  | with_reducible apply x_sl
  | with_reducible apply x_if
  | with_reducible apply x_and
  | with_reducible apply x_or
  | with_reducible apply x_not
  | with_reducible apply x_chain
  | with_reducible apply xt_test
  | with_reducible apply xt_B
  | with_reducible apply xt_not
  | with_reducible apply xt_and
  | with_reducible apply xt_or
  | ((with_reducible refine fun _ => ?_); first | with_reducible show EvG _ _ _ _ _ _ _ | with_reducible show EtG _ _ _ _ _ _ _)
  | ((with_reducible refine fun _ _ => ?_); first | with_reducible show TgW _ _ _ _ _ _ | with_reducible show EvG _ _ _ _ _ _ _ | with_reducible show EtG _ _ _ _ _ _ _)
  | exact rfl
  | assumption
  | exact ⟨_, rfl, rfl⟩
  | exact ⟨_, by assumption, rfl⟩
  | exact ⟨trivial, rfl⟩
  | exact Or.inl rfl
  | exact ⟨rfl, rfl, rfl⟩
  | exact ⟨by decide, rfl⟩
  | exact ⟨by assumption, rfl⟩
  | exact ⟨rfl, by assumption⟩
  | exact ⟨rfl, by decide⟩
  | (show List.length _ ≤ 1000; exact Nat.le_of_ble_eq_true rfl)
  | fail "open")
local macro_rules | `(tactic| walk_at "go") => `(tactic| repeat' (walk_at "g1"))
local macro_rules | `(tactic| walk_at "g1") => `(tactic| ((with_reducible apply ix_pin); (try (walk_at "sd"))))
local macro_rules | `(tactic| walk_at "g1") => `(tactic| first
  | with_reducible exact tw_name
  | with_reducible apply tw_tup
  | with_reducible exact tws_nil
  | with_reducible apply tws_cons
  | with_reducible exact tg_name
  | with_reducible apply tg_tup
  | with_reducible exact tgs_nil
  | with_reducible apply tgs_cons
  | with_reducible exact r_all _ _
  | with_reducible exact r_sum _ _
  | with_reducible exact r_len _
  | with_reducible exact r_lenT _)
local macro_rules | `(tactic| walk_at "g1") => `(tactic| first
  | with_reducible exact dEq_wayL _
  | with_reducible exact dEq_wordA _
  | with_reducible exact dEq_wordB _
  | with_reducible exact dEq_int _ _
  | with_reducible exact dNe_int _ _
  | with_reducible exact dEq_bool _ _
  | with_reducible exact r_all2 _ _ _
  | with_reducible exact dIn_nats _ _
  | with_reducible exact dNotIn_nats _ _)
local macro_rules | `(tactic| walk_at "g1") => `(tactic| first
  | ((with_reducible apply dMod_at); (walk_at "sd"))
  | ((with_reducible apply dDiv_at); (walk_at "sd"))
  | ((with_reducible apply dMul_at); (walk_at "sd")))

section
variable {P : Program} {w : World} {K : PySem.W.Frag} {mg : Str → Option Value} {base : Heap}
local macro_rules | `(tactic| walk_at "g1") => `(tactic| ((with_reducible apply r_is_whole); (try (walk_at "sd"))))
local macro_rules | `(tactic| walk_at "g1") => `(tactic| ((with_reducible apply r_is_within); (try (walk_at "sd"))))
local macro_rules | `(tactic| walk_at "g1") => `(tactic| ((with_reducible apply r_is_long); (try (walk_at "sd"))))
local macro_rules | `(tactic| walk_at "g1") => `(tactic| ((with_reducible apply r_rises); (try (walk_at "sd"))))
local macro_rules | `(tactic| walk_at "g1") => `(tactic| ((with_reducible apply r_is_way); (try (walk_at "sd"))))
local macro_rules | `(tactic| walk_at "g1") => `(tactic| ((with_reducible apply r_other_way); (try (walk_at "sd"))))
local macro_rules | `(tactic| walk_at "g1") => `(tactic| ((with_reducible apply r_is_pin_by); (try (walk_at "sd"))))
local macro_rules | `(tactic| walk_at "g1") => `(tactic| ((with_reducible apply r_cross); (try (walk_at "sd"))))
local macro_rules | `(tactic| walk_at "g1") => `(tactic| ((with_reducible apply r_between); (try (walk_at "sd"))))
local macro_rules | `(tactic| walk_at "g1") => `(tactic| ((with_reducible apply r_pairs_of); (try (walk_at "sd"))))
local macro_rules | `(tactic| walk_at "g1") => `(tactic| ((with_reducible apply r_is_board); (try (walk_at "sd"))))
local macro_rules | `(tactic| walk_at "g1") => `(tactic| ((with_reducible apply r_need_board); (try (walk_at "sd"))))
local macro_rules | `(tactic| walk_at "g1") => `(tactic| ((with_reducible apply r_need_pins); (try (walk_at "sd"))))
local macro_rules | `(tactic| walk_at "g1") => `(tactic| ((with_reducible apply r_with_ways_by); (try (walk_at "sd"))))
local macro_rules | `(tactic| walk_at "g1") => `(tactic| ((with_reducible apply r_with_ways); (try (walk_at "sd"))))
local macro_rules | `(tactic| walk_at "g1") => `(tactic| ((with_reducible apply r_mirrored); (try (walk_at "sd"))))
local macro_rules | `(tactic| walk_at "g1") => `(tactic| ((with_reducible apply r_other_word); (try (walk_at "sd"))))
local macro_rules | `(tactic| walk_at "g1") => `(tactic| ((with_reducible apply r_turned_about); (try (walk_at "sd"))))
local macro_rules | `(tactic| walk_at "g1") => `(tactic| ((with_reducible apply r_is_stand_by); (try (walk_at "sd"))))
local macro_rules | `(tactic| walk_at "g1") => `(tactic| ((with_reducible apply r_need_stand); (try (walk_at "sd"))))
local macro_rules | `(tactic| walk_at "g1") => `(tactic| ((with_reducible apply r_look_of); (try (walk_at "sd"))))
local macro_rules | `(tactic| walk_at "g1") => `(tactic| ((with_reducible apply r_met_first); (try (walk_at "sd"))))
local macro_rules | `(tactic| walk_at "g1") => `(tactic| ((with_reducible apply r_beside); (try (walk_at "sd"))))
local macro_rules | `(tactic| walk_at "g1") => `(tactic| ((with_reducible apply r_beat_by); (try (walk_at "sd"))))
local macro_rules | `(tactic| walk_at "g1") => `(tactic| ((with_reducible apply r_beat); (try (walk_at "sd"))))
local macro_rules | `(tactic| walk_at "g1") => `(tactic| ((with_reducible apply r_all_stands); (try (walk_at "sd"))))
local macro_rules | `(tactic| walk_at "g1") => `(tactic| ((with_reducible apply r_need_row); (try (walk_at "sd"))))
local macro_rules | `(tactic| walk_at "g1") => `(tactic| ((with_reducible apply r_need_seen); (try (walk_at "sd"))))
local macro_rules | `(tactic| walk_at "g1") => `(tactic| ((with_reducible apply r_by_ways); (try (walk_at "sd"))))
local macro_rules | `(tactic| walk_at "g1") => `(tactic| ((with_reducible apply r_all_ways); (try (walk_at "sd"))))
local macro_rules | `(tactic| walk_at "g1") => `(tactic| ((with_reducible apply r_end_of); (try (walk_at "sd"))))
local macro_rules | `(tactic| walk_at "g1") => `(tactic| ((with_reducible apply r_stories); (try (walk_at "sd"))))
local macro_rules | `(tactic| walk_at "g1") => `(tactic| ((with_reducible apply r_many_stories); (try (walk_at "sd"))))
local macro_rules | `(tactic| walk_at "g1") => `(tactic| ((with_reducible apply r_some_story); (try (walk_at "sd"))))
local macro_rules | `(tactic| walk_at "g1") => `(tactic| ((with_reducible apply r_is_story); (try (walk_at "sd"))))
local macro_rules | `(tactic| walk_at "g1") => `(tactic| ((with_reducible apply r_next_pins); (try (walk_at "sd"))))
local macro_rules | `(tactic| walk_at "g1") => `(tactic| ((with_reducible apply r_sure_ways); (try (walk_at "sd"))))
local macro_rules | `(tactic| walk_at "g1") => `(tactic| ((with_reducible apply r__law_cell_at); (try (walk_at "sd"))))
local macro_rules | `(tactic| walk_at "g1") => `(tactic| ((with_reducible apply r__law_pen); (try (walk_at "sd"))))
local macro_rules | `(tactic| walk_at "g1") => `(tactic| ((with_reducible apply r__law_draw); (try (walk_at "sd"))))
local macro_rules | `(tactic| walk_at "g1") => `(tactic| ((with_reducible apply r__law_pick); (try (walk_at "sd"))))
local macro_rules | `(tactic| walk_at "g1") => `(tactic| ((with_reducible apply r__law_cross); (try (walk_at "sd"))))
local macro_rules | `(tactic| walk_at "g1") => `(tactic| ((with_reducible apply r__law_far); (try (walk_at "sd"))))
local macro_rules | `(tactic| walk_at "g1") => `(tactic| ((with_reducible apply r__law_fits); (try (walk_at "sd"))))
local macro_rules | `(tactic| walk_at "g1") => `(tactic| ((with_reducible apply r__law_board); (try (walk_at "sd"))))
local macro_rules | `(tactic| walk_at "g1") => `(tactic| ((with_reducible apply r__law_stands); (try (walk_at "sd"))))
local macro_rules | `(tactic| walk_at "g1") => `(tactic| ((with_reducible apply r__law_turned_ways); (try (walk_at "sd"))))
local macro_rules | `(tactic| walk_at "g1") => `(tactic| ((with_reducible apply r__law_row); (try (walk_at "sd"))))
local macro_rules | `(tactic| walk_at "g1") => `(tactic| ((with_reducible apply r__law_free_right); (try (walk_at "sd"))))
local macro_rules | `(tactic| walk_at "g1") => `(tactic| ((with_reducible apply r__law_mirror_right); (try (walk_at "sd"))))
local macro_rules | `(tactic| walk_at "g1") => `(tactic| ((with_reducible apply r__law_called_right); (try (walk_at "sd"))))
theorem laps_eq (n : Nat) : (.int (if (if (2 : Int) < (n : Int) then (2 : Int) else (n : Int)) > 1 then (if (2 : Int) < (n : Int) then (2 : Int) else (n : Int)) else 1) : PyData) = .int (((if 2 ≤ n then 2 else 1 : Nat)) : Int) := by
  congr 1
  split <;> split <;> split <;> omega
theorem row_ok {pen : Pen} (hp : PenOk pen) {b : Board} (hb : Valid b) : RowOk b (rowOf pen b) ∧ PenOk (rowPen pen b) := by
  have hpos := stands_pos hb
  have hk := drawN_lt pen hpos
  obtain ⟨hat, hso⟩ := standD_ok hb hk
  have hp1 := drawP_ok hp hpos
  have ht8 := drawN_lt (drawP pen (allStands b).length) (many := 8) (by decide)
  have hrr := rowRun_ok hb hso (drawN (drawP pen (allStands b).length) 8)
  unfold rowOf rowPen
  simp only
  generalize (rowRun b (standD b (drawN pen (allStands b).length)) (drawN (drawP pen (allStands b).length) 8)).1 = t at hrr
  generalize (rowRun b (standD b (drawN pen (allStands b).length)) (drawN (drawP pen (allStands b).length) 8)).2 = r at hrr
  obtain ⟨q1, q2, q3⟩ := hrr
  have hp2 := drawP_ok hp1 (many := 8) (by decide)
  have hp3 := drawP_ok hp2 (many := r.length) (by omega)
  have hp4 := drawP_ok hp3 (many := 4) (by decide)
  have hat2 := drawN_lt (drawP (drawP pen (allStands b).length) 8) (many := r.length) (by omega)
  have hf := hb.few
  split
  · exact ⟨⟨by omega, by omega, q3⟩, hp4⟩
  · refine ⟨⟨?_, ?_, ?_⟩, drawP_ok hp4 (by omega)⟩
    · rw [List.length_append, List.length_append, List.length_take, List.length_drop]; show 1 ≤ _ + 1 + _; omega
    · rw [List.length_append, List.length_append, List.length_take, List.length_drop]; show _ + 1 + _ ≤ 30; omega
    · intro x hx
      rcases List.mem_append.mp hx with hx | hx
      · rcases List.mem_append.mp hx with hx | hx
        · exact q3 x (List.mem_of_mem_take hx)
        · rw [List.mem_singleton.mp hx]; exact drawN_lt _ (by omega)
      · exact q3 x (List.mem_of_mem_drop hx)
def F_law : List RD → RD → Prop := fun aa zz => ∃ (ns : List Int), (True) ∧ aa = [.sq ns] ∧ zz = .dat (.bool true)
theorem r_law (ns : List Int) (hc : True) : F_law [.sq ns] (.dat (.bool true)) := ⟨ns, hc, rfl, rfl⟩
abbrev sp_law (K : PySem.W.Frag) : Sp := spD K F_law
local macro_rules | `(tactic| walk_at "g1") => `(tactic| ((with_reducible apply r_law); (try (walk_at "sd"))))
theorem sc_law : FnScope ["_law_script", "_law_k", "_law_pen_here", "_law_lap", "_law_board_here", "_law_row_here", "_law_other"] ["_law_script"] (defScope s_law) := ⟨rfl, rfl, rfl, by decide +kernel, rfl, by decide +kernel, by decide +kernel⟩
-- slots: 0 _law_script, 1 _law_k, 2 _law_pen_here, 3 _law_lap, 4 _law_board_here, 5 _law_row_here, 6 _law_other
theorem fn_law (T : Tx K mg) (df__law_board : Df P w K mg base "_law_board" 3 ["_law_pen_here", "_law_most"] (sp__law_board K)) (df__law_called_right : Df P w K mg base "_law_called_right" 8 ["_law_pen_here", "_law_board_here", "_law_row_here"] (sp__law_called_right K)) (df__law_cell_at : Df P w K mg base "_law_cell_at" 1 ["_law_script", "_law_k"] (sp__law_cell_at K)) (df__law_draw : Df P w K mg base "_law_draw" 1 ["_law_pen_here", "_law_many"] (sp__law_draw K)) (df__law_free_right : Df P w K mg base "_law_free_right" 8 ["_law_board_here", "_law_row_here"] (sp__law_free_right K)) (df__law_mirror_right : Df P w K mg base "_law_mirror_right" 8 ["_law_board_here", "_law_row_here"] (sp__law_mirror_right K)) (df__law_pen : Df P w K mg base "_law_pen" 1 ["_law_cell"] (sp__law_pen K)) (df__law_row : Df P w K mg base "_law_row" 8 ["_law_pen_here", "_law_board_here"] (sp__law_row K)) (df_many_stories : Df P w K mg base "many_stories" 7 ["board", "row"] (sp_many_stories K)) (df_sure_ways : Df P w K mg base "sure_ways" 7 ["board", "row"] (sp_sure_ways K)) (df_with_ways : Df P w K mg base "with_ways" 6 ["board", "pins"] (sp_with_ways K)) {f : Addr} {fd : FuncData} (F : Fun K "law" "law" s_law f fd) : FnOk P w K mg base CX0 9 f fd ["_law_script"] (sp_law K) := by
  refine F.ok sc_law (fun vs H Q E h => ?_) (fun cdv A outer s H vs Q E hr h => ?_)
  · obtain ⟨H0, aa, zz, s0, hd, ⟨ns, hc, rfl, rfl⟩, q⟩ := h
    exact hd.length
  obtain ⟨H0, aa, zz, s0, hd, ⟨ns, hc, rfl, rfl⟩, q⟩ := h
  refine ⟨_, (pss_cons (ps_for PassesOwn.never rfl (pi_range1 (by rfl) T.z_range (pa_cons (pe_callB (cK (cD_max rfl) (K := K)) (by rfl) T.z_max (by decide +kernel) (pa_cons pe_int (pa_cons (pe_callB (cK (cD_min rfl) (K := K)) (by rfl) T.z_min (by decide +kernel) (pa_cons (pe_callB (cK cD_lenA (K := K) (R' := fLenA P w)) (by rfl) T.z_len (by decide +kernel) (pa_cons (pv 0) pa_nil)) (pa_cons pe_int pa_nil))) pa_nil))) pa_nil)) (pg_name (i := 1) sc_law.nd rfl (by first | exact Or.inl rfl | exact Or.inr rfl)) (pss_cons (ps_asg (pe_df df__law_pen (hr.mono (by decide)) (by rfl) (pa_cons (pe_df df__law_cell_at (hr.mono (by decide)) (by rfl) (pa_cons (pv 0) (pa_cons (pv 1) pa_nil))) pa_nil)) (pg_name (i := 2) sc_law.nd rfl (by first | exact Or.inl rfl | exact Or.inr rfl))) (pss_one (ps_for PassesOwn.never rfl (pi_range1 (by rfl) T.z_range (pa_cons pe_int pa_nil)) (pg_name (i := 3) sc_law.nd rfl (by first | exact Or.inl rfl | exact Or.inr rfl)) (pss_cons (ps_asg (pe_df df__law_board (hr.mono (by decide)) (by rfl) (pa_cons (pv 2) (pa_cons pe_int pa_nil))) (pg_name (i := 4) sc_law.nd rfl (by first | exact Or.inl rfl | exact Or.inr rfl))) (pss_cons (ps_asg (pe_df df__law_row (hr.mono (by decide)) (by rfl) (pa_cons (pv 2) (pa_cons (pv 4) pa_nil))) (pg_name (i := 5) sc_law.nd rfl (by first | exact Or.inl rfl | exact Or.inr rfl))) (pss_cons (ps_if (PW.pt (pw_or (pt_not (pt_val (pe_df df__law_free_right (hr.mono (by decide)) (by rfl) (pa_cons (pv 4) (pa_cons (pv 5) pa_nil))))) (pw_or1 (pt_not (pt_val (pe_df df__law_mirror_right (hr.mono (by decide)) (by rfl) (pa_cons (pv 4) (pa_cons (pv 5) pa_nil)))))))) (pss_one (ps_ret pe_bl)) pss_nil) (pss_cons (ps_if (pt_not (pt_val (pe_df df__law_called_right (hr.mono (by decide)) (by rfl) (pa_cons (pv 2) (pa_cons (pv 4) (pa_cons (pv 5) pa_nil)))))) (pss_one (ps_ret pe_bl)) pss_nil) (pss_cons (ps_asg (pe_df df_with_ways (hr.mono (by decide)) (by rfl) (pa_cons (pv 4) (pa_cons (pe_tup (pa_cons (pe_df df__law_draw (hr.mono (by decide)) (by rfl) (pa_cons (pv 2) (pa_cons (pe_callB (cK cD_lenA (K := K) (R' := fLenA P w)) (by rfl) T.z_len (by decide +kernel) (pa_cons (pv 4) pa_nil)) pa_nil))) pa_nil)) pa_nil))) (pg_name (i := 6) sc_law.nd rfl (by first | exact Or.inl rfl | exact Or.inr rfl))) (pss_cons (ps_if (pt_cmpR (oK (oD_ne hr.units) (K := K)) (pe_df df_many_stories (hr.mono (by decide)) (by rfl) (pa_cons (pv 6) (pa_cons (pv 5) pa_nil))) (pe_df df_many_stories (hr.mono (by decide)) (by rfl) (pa_cons (pv 4) (pa_cons (pv 5) pa_nil))) (nomark _)) (pss_one (ps_ret pe_bl)) pss_nil) (pss_one (ps_if (pt_cmpR (oK (oD_ne hr.units) (K := K)) (pe_df df_sure_ways (hr.mono (by decide)) (by rfl) (pa_cons (pv 6) (pa_cons (pv 5) pa_nil))) (pe_df df_sure_ways (hr.mono (by decide)) (by rfl) (pa_cons (pv 4) (pa_cons (pv 5) pa_nil))) (nomark _)) (pss_one (ps_ret pe_bl)) pss_nil)))))))))))) (pss_one (ps_ret pe_bl))), ?_⟩
  refine body_end s0 hd q ?_
  apply y_for1 (xs := List.range (if 2 ≤ ns.length then 2 else 1)) (enc := fun i => RD.dat (eN i)) (fun i G' M' => M' = [] ∧ ∃ x y z t u v, G' = [some (.sq ns), x, y, z, t, u, v])
  · apply xi_rngN
    · refine xa_cons (ev_is (r := .dat (.int (if (if (2 : Int) < (ns.length : Int) then (2 : Int) else (ns.length : Int)) > 1 then (if (2 : Int) < (ns.length : Int) then (2 : Int) else (ns.length : Int)) else 1))) ?_ (congrArg RD.dat (laps_eq ns.length))) xa_nil
      refine x_cb (R := fMax) (ds := [.dat (.int 1), .dat (.int (if (2 : Int) < (ns.length : Int) then (2 : Int) else (ns.length : Int)))]) (xa_cons ?_ (xa_cons (x_cb (R := fMin) (ds := [.dat (.int (ns.length : Nat)), .dat (.int 2)]) ?_ rfl) xa_nil)) rfl <;> walk_at "go"
    · split <;> omega
  · exact ⟨rfl, _, _, _, _, _, _, rfl⟩
  · rintro i x hx G' M' ⟨rfl, g1, g2, g3, g4, g5, g6, rfl⟩
    apply svt
    · walk_at "go"
    refine sv_newB (M1 := []) (new_call (rs := [.dat (.int (ns.getD x 0))]) ?_ (r__law_pen (ns.getD x 0) trivial)) fun p => ?_
    · walk_at "go"
    apply y_for (xs := List.range 2) (enc := fun i => RD.dat (eN i)) (fun i G' M' => ∃ pen, PenOk pen ∧ M' = [.lst (ePen pen)] ∧ ∃ y z t u, G' = [some (.sq ns), some (.dat (eN x)), some (.raw (.ref p)), y, z, t, u])
    · apply xi_rngN
      · walk_at "go"
      · decide
    · exact ⟨_, penOf_ok _, rfl, _, _, _, _, rfl⟩
    · rintro j y hy G' M' ⟨pen, hpen, rfl, f1, f2, f3, f4, rfl⟩
      obtain ⟨hv, hl5, hpen2⟩ := boardOf_ok hpen (most := 5) (by decide) (by decide)
      apply svt
      · walk_at "go"
      refine sv_set1 (r := .dat (eB (boardOf pen 5))) (M1 := [.lst (ePen (boardPen pen 5))]) (ev_callO (ps := [] ++ [p]) (j := 0) (p := p) (rs := [.dat (eN 5)]) (st := ePen pen) (M1 := [.lst (ePen pen)]) ?_ rfl rfl (r__law_board pen 5 ⟨hpen, by decide, by decide⟩)) ?_
      · walk_at "go"
      generalize boardOf pen 5 = b at hv hl5
      generalize boardPen pen 5 = pen2 at hpen2
      obtain ⟨hro, hpen3⟩ := row_ok hpen2 hv
      refine sv_set1 (r := .dat (eR (rowOf pen2 b))) (M1 := [.lst (ePen (rowPen pen2 b))]) (ev_callO (ps := [] ++ [p]) (j := 0) (p := p) (rs := [.dat (eB b)]) (st := ePen pen2) (M1 := [.lst (ePen pen2)]) ?_ rfl rfl (r__law_row pen2 b ⟨hpen2, hv⟩)) ?_
      · walk_at "go"
      generalize rowOf pen2 b = r at hro
      generalize rowPen pen2 b = pen3 at hpen3
      apply y_skip (b := !true || !true)
      · refine xt_or (xt_not (xt_B ?_)) fun _ => xt_not (xt_B ?_)
        · refine x_call (ds := [.dat (eB b), .dat (eR r)]) ?_ (r__law_free_right b r ⟨hv, hro, hl5⟩)
          walk_at "go"
        · refine x_call (ds := [.dat (eB b), .dat (eR r)]) ?_ (r__law_mirror_right b r ⟨hv, hro, hl5⟩)
          walk_at "go"
      · rfl
      have hpen4 := (names_perm hpen3 b.length).2
      refine sv_seq (sv_ifF (M1 := [.lst (ePen (namesPen pen3 b.length))]) (et_is (et_not (et_B (ev_callO (ps := [] ++ [p]) (j := 0) (p := p) (rs := [.dat (eB b), .dat (eR r)]) (st := ePen pen3) (r := .dat (.bool true)) (M1 := [.lst (ePen pen3)]) ?_ rfl rfl (r__law_called_right pen3 b r ⟨hpen3, hv, hro, hl5⟩)))) rfl) (sv_nil ?_))
      · walk_at "go"
      generalize namesPen pen3 b.length = pen4 at hpen4
      show SvP K ([] ++ [p]) _ _ _ _
      have h3 := hv.few
      have hd := drawN_lt pen4 (many := b.length) (by omega)
      have hpen5 := drawP_ok hpen4 (many := b.length) (by omega)
      have hww := r_with_ways b [drawN pen4 b.length] ⟨hv, List.pairwise_singleton _ _, fun z hz => by rw [List.mem_singleton.mp hz]; exact hd⟩
      refine sv_set1 (r := .dat (eB (withWays b [drawN pen4 b.length]))) (M1 := [.lst (ePen (drawP pen4 b.length))]) (ev_call (ds := [.dat (eB b), .dat (eR [drawN pen4 b.length])]) (ea_cons (M1 := [.lst (ePen pen4)]) ?_ (ea_cons (M1 := [.lst (ePen (drawP pen4 b.length))]) (ev_tup (ds := [eN (drawN pen4 b.length)]) (ea_cons (ev_draw (ps := [] ++ [p]) (j := 0) rfl rfl rfl ?_ ⟨hpen4, by omega, by omega⟩) ea_nil) (Nat.le_of_ble_eq_true rfl)) ea_nil)) hww) ?_
      · walk_at "go"
      · walk_at "go"
      have lk := like_withWays b [drawN pen4 b.length]
      generalize withWays b [drawN pen4 b.length] = c at lk
      generalize drawP pen4 b.length = pen5 at hpen5
      have hcv := lk.valid hv
      have hc5 : c.length ≤ 5 := by rw [lk.len]; exact hl5
      have hcr : RowOk c r := ⟨hro.1, hro.2.1, by rw [lk.len]; exact hro.2.2⟩
      have e1 := stories_like lk r
      have e2 := sure_like lk r
      apply y_skip (b := !decide ((Wm.stories c r).length = (Wm.stories b r).length))
      · refine xt_test (x_op (R := dEq true) (a := .dat (eN (Wm.stories c r).length)) (b := .dat (eN (Wm.stories b r).length)) ?_ ?_ (dNe_nat _ _)) <;> walk_at "go"
      · rw [e1, decide_eq_true rfl]; rfl
      apply y_skipE (b := false)
      · refine xt_test (x_op (R := dEq true) (a := .dat (eSure (sure b r))) (b := .dat (eSure (sure b r))) (ev_is (r := .dat (eSure (sure c r))) ?_ (by rw [e2])) ?_ (dNe_same (shaped_sure _))) <;> walk_at "go"
      · rfl
      · exact ⟨_, hpen5, rfl, _, _, _, _, rfl⟩
    · rintro G' M' ⟨pen, hpen, rfl, f1, f2, f3, f4, rfl⟩
      exact ⟨[], _, rfl, rfl, _, _, _, _, _, _, rfl⟩
  · rintro G' M' ⟨rfl, g1, g2, g3, g4, g5, g6, rfl⟩
    apply y_ret
    · walk_at "go"
    · rfl
theorem all_df (T : Tx K mg) {f : Addr} {fd : FuncData} (F : Fun K "law" "law" s_law f fd) : FnOk P w K mg base CX0 9 f fd ["_law_script"] (sp_law K) := by
  have h_is_whole := df_is_whole (P := P) (w := w) (base := base) T 
  have h_is_within := df_is_within (P := P) (w := w) (base := base) T h_is_whole
  have h_is_long := df_is_long (P := P) (w := w) (base := base) T 
  have h_rises := df_rises (P := P) (w := w) (base := base) T 
  have h_is_way := df_is_way (P := P) (w := w) (base := base) T 
  have h_other_way := df_other_way (P := P) (w := w) (base := base) T 
  have h_is_pin_by := df_is_pin_by (P := P) (w := w) (base := base) T h_is_long h_is_way h_is_within
  have h_cross := df_cross (P := P) (w := w) (base := base) T 
  have h_between := df_between (P := P) (w := w) (base := base) T 
  have h_pairs_of := df_pairs_of (P := P) (w := w) (base := base) T h_between
  have h_is_board := df_is_board (P := P) (w := w) (base := base) T h_cross h_is_long h_is_pin_by h_pairs_of
  have h_need_board := df_need_board (P := P) (w := w) (base := base) T h_is_board
  have h_need_pins := df_need_pins (P := P) (w := w) (base := base) T h_is_within h_rises
  have h_with_ways_by := df_with_ways_by (P := P) (w := w) (base := base) T h_other_way
  have h_with_ways := df_with_ways (P := P) (w := w) (base := base) T h_need_board h_need_pins h_with_ways_by
  have h_mirrored := df_mirrored (P := P) (w := w) (base := base) T h_need_board h_other_way
  have h_other_word := df_other_word (P := P) (w := w) (base := base) T 
  have h_turned_about := df_turned_about (P := P) (w := w) (base := base) T 
  have h_is_stand_by := df_is_stand_by (P := P) (w := w) (base := base) T h_is_long h_is_within
  have h_need_stand := df_need_stand (P := P) (w := w) (base := base) T h_is_stand_by h_need_board
  have h_look_of := df_look_of (P := P) (w := w) (base := base) T h_between
  have h_met_first := df_met_first (P := P) (w := w) (base := base) T h_between h_cross h_turned_about
  have h_beside := df_beside (P := P) (w := w) (base := base) T 
  have h_beat_by := df_beat_by (P := P) (w := w) (base := base) T h_beside h_look_of h_met_first h_other_word
  have h_beat := df_beat (P := P) (w := w) (base := base) T h_beat_by h_need_stand
  have h_all_stands := df_all_stands (P := P) (w := w) (base := base) T 
  have h_need_row := df_need_row (P := P) (w := w) (base := base) T h_is_long h_is_within
  have h_need_seen := df_need_seen (P := P) (w := w) (base := base) T h_need_board h_need_row
  have h_by_ways := df_by_ways (P := P) (w := w) (base := base) T 
  have h_all_ways := df_all_ways (P := P) (w := w) (base := base) T 
  have h_end_of := df_end_of (P := P) (w := w) (base := base) T h_beat_by
  have h_stories := df_stories (P := P) (w := w) (base := base) T h_all_stands h_all_ways h_by_ways h_end_of
  have h_many_stories := df_many_stories (P := P) (w := w) (base := base) T h_need_seen h_stories
  have h_some_story := df_some_story (P := P) (w := w) (base := base) T h_need_seen h_stories
  have h_is_story := df_is_story (P := P) (w := w) (base := base) T h_by_ways h_end_of h_is_long h_is_stand_by h_is_way h_need_seen
  have h_next_pins := df_next_pins (P := P) (w := w) (base := base) T h_beat_by h_by_ways h_need_seen h_stories
  have h_sure_ways := df_sure_ways (P := P) (w := w) (base := base) T h_need_seen h_stories
  have h__law_cell_at := df__law_cell_at (P := P) (w := w) (base := base) T 
  have h__law_pen := df__law_pen (P := P) (w := w) (base := base) T 
  have h__law_draw := df__law_draw (P := P) (w := w) (base := base) T 
  have h__law_pick := df__law_pick (P := P) (w := w) (base := base) T h__law_draw
  have h__law_cross := df__law_cross (P := P) (w := w) (base := base) T 
  have h__law_far := df__law_far (P := P) (w := w) (base := base) T 
  have h__law_fits := df__law_fits (P := P) (w := w) (base := base) T h__law_cross h__law_far
  have h__law_board := df__law_board (P := P) (w := w) (base := base) T h__law_draw h__law_fits
  have h__law_stands := df__law_stands (P := P) (w := w) (base := base) T 
  have h__law_turned_ways := df__law_turned_ways (P := P) (w := w) (base := base) T 
  have h__law_row := df__law_row (P := P) (w := w) (base := base) T h__law_draw h__law_pick h__law_stands h_beat
  have h__law_free_right := df__law_free_right (P := P) (w := w) (base := base) T h__law_turned_ways h_is_story h_many_stories h_some_story h_sure_ways
  have h__law_mirror_right := df__law_mirror_right (P := P) (w := w) (base := base) T h__law_turned_ways h_many_stories h_mirrored h_next_pins h_sure_ways
  have h__law_called_right := df__law_called_right (P := P) (w := w) (base := base) T h__law_draw h_many_stories h_next_pins h_sure_ways
  exact fn_law (P := P) (w := w) (base := base) T h__law_board h__law_called_right h__law_cell_at h__law_draw h__law_free_right h__law_mirror_right h__law_pen h__law_row h_many_stories h_sure_ways h_with_ways F
theorem end_law {l : PySem.W.OpenLaw} {h : Heap} {fa : Addr} (X : K.In h) (G : h.Ns mainGlobals mg) (hfa : mg "law" = some (.ref fa)) (T : Tx K mg) : ∃ fd : FuncData, (∀ (s : Shared) (v : Value), BindsTo s fd ⟨[v], []⟩ [("_law_script", v)]) ∧ ∀ base : Heap, K.In base → base.Ns mainGlobals mg → FnOk l.prog w K mg base CX0 9 fa fd ["_law_script"] (sp_law K) := by
  obtain ⟨f, fd, hm, hF⟩ := T.d_law
  have e := hfa.symm.trans hm
  cases e
  obtain ⟨⟨oc, od, kV, doc, pm, an, cdv, ct, osl, rfl, lk, c⟩, k⟩ := hF
  exact ⟨_, fun s v => .of_eq rfl, fun base _ _ => all_df T ⟨⟨oc, od, kV, doc, pm, an, cdv, ct, osl, rfl, lk, c⟩, k⟩⟩
end
end Wk
end
section
set_option Elab.async false
set_option maxRecDepth 100000
open PySem PySem.W PyProof.Rows
set_option maxHeartbeats 0 in
theorem PySem.Challenge.cw_waypins_k87_whole_ways_that_no_meeting_t_holds : PySem.Challenge.rw_waypins_k87_whole_ways_that_no_meeting_t.Holds := by
  w_on; o_law; k_head; (case hw => w_witness2)
  k_fill
  refine L2.walk_of (l := PySem.Challenge.rw_waypins_k87_whole_ways_that_no_meeting_t) (n := 63) (k := 9) (x := "_law_script") (CX := fun _ => L2.CX0) (sp := fun w => Wk.sp_law _) rfl (by decide) rfl ⟨rfl, by decide, by decide⟩ (fun w h Y => PySem.W.kIn_of Y) ?F (fun _ H a ns hl _ hS => ⟨H, [.sq ns], .dat (.bool true), L2.Same.refl H, .cons ⟨a, rfl, hS⟩ .nil, Wk.r_law ns trivial, fun v H0' H' g h => by cases h; rfl⟩) (fun _ _ _ _ _ h => h)
  case F =>
    intro w mg fa h KX G hmg
    refine Wk.end_law KX G hmg ?_
    refine' ⟨?d_is_whole, ?d_is_within, ?d_is_long, ?d_rises, ?d_is_way, ?d_other_way, ?d_is_pin_by, ?d_cross, ?d_between, ?d_pairs_of, ?d_is_board, ?d_need_board, ?d_need_pins, ?d_with_ways_by, ?d_with_ways, ?d_mirrored, ?d_other_word, ?d_turned_about, ?d_is_stand_by, ?d_need_stand, ?d_all_stands, ?d_look_of, ?d_met_first, ?d_beside, ?d_beat_by, ?d_beat, ?d_need_row, ?d_need_seen, ?d_by_ways, ?d_all_ways, ?d_end_of, ?d_stories, ?d_many_stories, ?d_sure_ways, ?d_is_story, ?d_some_story, ?d_next_pins, ?d__law_cell_at, ?d__law_pen, ?d__law_draw, ?d__law_pick, ?d__law_cross, ?d__law_far, ?d__law_fits, ?d__law_board, ?d__law_stands, ?d__law_turned_ways, ?d__law_row, ?d__law_free_right, ?d__law_called_right, ?d__law_mirror_right, ?d_law, ?c_LEFT, ?c_RIGHT, ?c_MOST_PLACE, ?c_FEWEST_PINS, ?c_MOST_PINS, ?c_LONG_PIN, ?c_AHEAD, ?c_BEHIND, ?c_LONG_STAND, ?c_MOST_ROW, ?z_len, ?z_max, ?z_min, ?z_all, ?z_isinstance, ?z_sorted, ?z_int, ?z_list, ?z_tuple, ?z_set, ?z_str, ?z_range, ?z_enumerate, ?z_zip, ?z_bool⟩
    (case d_is_whole => (refine' Wp.defAt_mk KX G ?a ?l ?c ?k; (case a => k_is); (case l => k_is); (case c => k_is); (case k => k_is)))
    (case d_is_within => (refine' Wp.defAt_mk KX G ?a ?l ?c ?k; (case a => k_is); (case l => k_is); (case c => k_is); (case k => k_is)))
    (case d_is_long => (refine' Wp.defAt_mk KX G ?a ?l ?c ?k; (case a => k_is); (case l => k_is); (case c => k_is); (case k => k_is)))
    (case d_rises => (refine' Wp.defAt_mk KX G ?a ?l ?c ?k; (case a => k_is); (case l => k_is); (case c => k_is); (case k => k_is)))
    (case d_is_way => (refine' Wp.defAt_mk KX G ?a ?l ?c ?k; (case a => k_is); (case l => k_is); (case c => k_is); (case k => k_is)))
    (case d_other_way => (refine' Wp.defAt_mk KX G ?a ?l ?c ?k; (case a => k_is); (case l => k_is); (case c => k_is); (case k => k_is)))
    (case d_is_pin_by => (refine' Wp.defAt_mk KX G ?a ?l ?c ?k; (case a => k_is); (case l => k_is); (case c => k_is); (case k => k_is)))
    (case d_cross => (refine' Wp.defAt_mk KX G ?a ?l ?c ?k; (case a => k_is); (case l => k_is); (case c => k_is); (case k => k_is)))
    (case d_between => (refine' Wp.defAt_mk KX G ?a ?l ?c ?k; (case a => k_is); (case l => k_is); (case c => k_is); (case k => k_is)))
    (case d_pairs_of => (refine' Wp.defAt_mk KX G ?a ?l ?c ?k; (case a => k_is); (case l => k_is); (case c => k_is); (case k => k_is)))
    (case d_is_board => (refine' Wp.defAt_mk KX G ?a ?l ?c ?k; (case a => k_is); (case l => k_is); (case c => k_is); (case k => k_is)))
    (case d_need_board => (refine' Wp.defAt_mk KX G ?a ?l ?c ?k; (case a => k_is); (case l => k_is); (case c => k_is); (case k => k_is)))
    (case d_need_pins => (refine' Wp.defAt_mk KX G ?a ?l ?c ?k; (case a => k_is); (case l => k_is); (case c => k_is); (case k => k_is)))
    (case d_with_ways_by => (refine' Wp.defAt_mk KX G ?a ?l ?c ?k; (case a => k_is); (case l => k_is); (case c => k_is); (case k => k_is)))
    (case d_with_ways => (refine' Wp.defAt_mk KX G ?a ?l ?c ?k; (case a => k_is); (case l => k_is); (case c => k_is); (case k => k_is)))
    (case d_mirrored => (refine' Wp.defAt_mk KX G ?a ?l ?c ?k; (case a => k_is); (case l => k_is); (case c => k_is); (case k => k_is)))
    (case d_other_word => (refine' Wp.defAt_mk KX G ?a ?l ?c ?k; (case a => k_is); (case l => k_is); (case c => k_is); (case k => k_is)))
    (case d_turned_about => (refine' Wp.defAt_mk KX G ?a ?l ?c ?k; (case a => k_is); (case l => k_is); (case c => k_is); (case k => k_is)))
    (case d_is_stand_by => (refine' Wp.defAt_mk KX G ?a ?l ?c ?k; (case a => k_is); (case l => k_is); (case c => k_is); (case k => k_is)))
    (case d_need_stand => (refine' Wp.defAt_mk KX G ?a ?l ?c ?k; (case a => k_is); (case l => k_is); (case c => k_is); (case k => k_is)))
    (case d_all_stands => (refine' Wp.defAt_mk KX G ?a ?l ?c ?k; (case a => k_is); (case l => k_is); (case c => k_is); (case k => k_is)))
    (case d_look_of => (refine' Wp.defAt_mk KX G ?a ?l ?c ?k; (case a => k_is); (case l => k_is); (case c => k_is); (case k => k_is)))
    (case d_met_first => (refine' Wp.defAt_mk KX G ?a ?l ?c ?k; (case a => k_is); (case l => k_is); (case c => k_is); (case k => k_is)))
    (case d_beside => (refine' Wp.defAt_mk KX G ?a ?l ?c ?k; (case a => k_is); (case l => k_is); (case c => k_is); (case k => k_is)))
    (case d_beat_by => (refine' Wp.defAt_mk KX G ?a ?l ?c ?k; (case a => k_is); (case l => k_is); (case c => k_is); (case k => k_is)))
    (case d_beat => (refine' Wp.defAt_mk KX G ?a ?l ?c ?k; (case a => k_is); (case l => k_is); (case c => k_is); (case k => k_is)))
    (case d_need_row => (refine' Wp.defAt_mk KX G ?a ?l ?c ?k; (case a => k_is); (case l => k_is); (case c => k_is); (case k => k_is)))
    (case d_need_seen => (refine' Wp.defAt_mk KX G ?a ?l ?c ?k; (case a => k_is); (case l => k_is); (case c => k_is); (case k => k_is)))
    (case d_by_ways => (refine' Wp.defAt_mk KX G ?a ?l ?c ?k; (case a => k_is); (case l => k_is); (case c => k_is); (case k => k_is)))
    (case d_all_ways => (refine' Wp.defAt_mk KX G ?a ?l ?c ?k; (case a => k_is); (case l => k_is); (case c => k_is); (case k => k_is)))
    (case d_end_of => (refine' Wp.defAt_mk KX G ?a ?l ?c ?k; (case a => k_is); (case l => k_is); (case c => k_is); (case k => k_is)))
    (case d_stories => (refine' Wp.defAt_mk KX G ?a ?l ?c ?k; (case a => k_is); (case l => k_is); (case c => k_is); (case k => k_is)))
    (case d_many_stories => (refine' Wp.defAt_mk KX G ?a ?l ?c ?k; (case a => k_is); (case l => k_is); (case c => k_is); (case k => k_is)))
    (case d_sure_ways => (refine' Wp.defAt_mk KX G ?a ?l ?c ?k; (case a => k_is); (case l => k_is); (case c => k_is); (case k => k_is)))
    (case d_is_story => (refine' Wp.defAt_mk KX G ?a ?l ?c ?k; (case a => k_is); (case l => k_is); (case c => k_is); (case k => k_is)))
    (case d_some_story => (refine' Wp.defAt_mk KX G ?a ?l ?c ?k; (case a => k_is); (case l => k_is); (case c => k_is); (case k => k_is)))
    (case d_next_pins => (refine' Wp.defAt_mk KX G ?a ?l ?c ?k; (case a => k_is); (case l => k_is); (case c => k_is); (case k => k_is)))
    (case d__law_cell_at => (refine' Wp.defAt_mk KX G ?a ?l ?c ?k; (case a => k_is); (case l => k_is); (case c => k_is); (case k => k_is)))
    (case d__law_pen => (refine' Wp.defAt_mk KX G ?a ?l ?c ?k; (case a => k_is); (case l => k_is); (case c => k_is); (case k => k_is)))
    (case d__law_draw => (refine' Wp.defAt_mk KX G ?a ?l ?c ?k; (case a => k_is); (case l => k_is); (case c => k_is); (case k => k_is)))
    (case d__law_pick => (refine' Wp.defAt_mk KX G ?a ?l ?c ?k; (case a => k_is); (case l => k_is); (case c => k_is); (case k => k_is)))
    (case d__law_cross => (refine' Wp.defAt_mk KX G ?a ?l ?c ?k; (case a => k_is); (case l => k_is); (case c => k_is); (case k => k_is)))
    (case d__law_far => (refine' Wp.defAt_mk KX G ?a ?l ?c ?k; (case a => k_is); (case l => k_is); (case c => k_is); (case k => k_is)))
    (case d__law_fits => (refine' Wp.defAt_mk KX G ?a ?l ?c ?k; (case a => k_is); (case l => k_is); (case c => k_is); (case k => k_is)))
    (case d__law_board => (refine' Wp.defAt_mk KX G ?a ?l ?c ?k; (case a => k_is); (case l => k_is); (case c => k_is); (case k => k_is)))
    (case d__law_stands => (refine' Wp.defAt_mk KX G ?a ?l ?c ?k; (case a => k_is); (case l => k_is); (case c => k_is); (case k => k_is)))
    (case d__law_turned_ways => (refine' Wp.defAt_mk KX G ?a ?l ?c ?k; (case a => k_is); (case l => k_is); (case c => k_is); (case k => k_is)))
    (case d__law_row => (refine' Wp.defAt_mk KX G ?a ?l ?c ?k; (case a => k_is); (case l => k_is); (case c => k_is); (case k => k_is)))
    (case d__law_free_right => (refine' Wp.defAt_mk KX G ?a ?l ?c ?k; (case a => k_is); (case l => k_is); (case c => k_is); (case k => k_is)))
    (case d__law_called_right => (refine' Wp.defAt_mk KX G ?a ?l ?c ?k; (case a => k_is); (case l => k_is); (case c => k_is); (case k => k_is)))
    (case d__law_mirror_right => (refine' Wp.defAt_mk KX G ?a ?l ?c ?k; (case a => k_is); (case l => k_is); (case c => k_is); (case k => k_is)))
    (case d_law => (refine' Wp.defAt_mk KX G ?a ?l ?c ?k; (case a => k_is); (case l => k_is); (case c => k_is); (case k => k_is)))
    (case c_LEFT => (refine' ⟨_, Wp.cAt_mk KX G ?a ?e⟩; (case a => k_is); (case e => exact rfl)))
    (case c_RIGHT => (refine' ⟨_, Wp.cAt_mk KX G ?a ?e⟩; (case a => k_is); (case e => exact rfl)))
    (case c_MOST_PLACE => (refine' ⟨_, Wp.cAt_mk KX G ?a ?e⟩; (case a => k_is); (case e => exact rfl)))
    (case c_FEWEST_PINS => (refine' ⟨_, Wp.cAt_mk KX G ?a ?e⟩; (case a => k_is); (case e => exact rfl)))
    (case c_MOST_PINS => (refine' ⟨_, Wp.cAt_mk KX G ?a ?e⟩; (case a => k_is); (case e => exact rfl)))
    (case c_LONG_PIN => (refine' ⟨_, Wp.cAt_mk KX G ?a ?e⟩; (case a => k_is); (case e => exact rfl)))
    (case c_AHEAD => (refine' ⟨_, Wp.cAt_mk KX G ?a ?e⟩; (case a => k_is); (case e => exact rfl)))
    (case c_BEHIND => (refine' ⟨_, Wp.cAt_mk KX G ?a ?e⟩; (case a => k_is); (case e => exact rfl)))
    (case c_LONG_STAND => (refine' ⟨_, Wp.cAt_mk KX G ?a ?e⟩; (case a => k_is); (case e => exact rfl)))
    (case c_MOST_ROW => (refine' ⟨_, Wp.cAt_mk KX G ?a ?e⟩; (case a => k_is); (case e => exact rfl)))
    (case z_len => (refine' PySem.W.mg_none_of KX G ?a; (case a => k_is)))
    (case z_max => (refine' PySem.W.mg_none_of KX G ?a; (case a => k_is)))
    (case z_min => (refine' PySem.W.mg_none_of KX G ?a; (case a => k_is)))
    (case z_all => (refine' PySem.W.mg_none_of KX G ?a; (case a => k_is)))
    (case z_isinstance => (refine' PySem.W.mg_none_of KX G ?a; (case a => k_is)))
    (case z_sorted => (refine' PySem.W.mg_none_of KX G ?a; (case a => k_is)))
    (case z_int => (refine' PySem.W.mg_none_of KX G ?a; (case a => k_is)))
    (case z_list => (refine' PySem.W.mg_none_of KX G ?a; (case a => k_is)))
    (case z_tuple => (refine' PySem.W.mg_none_of KX G ?a; (case a => k_is)))
    (case z_set => (refine' PySem.W.mg_none_of KX G ?a; (case a => k_is)))
    (case z_str => (refine' PySem.W.mg_none_of KX G ?a; (case a => k_is)))
    (case z_range => (refine' PySem.W.mg_none_of KX G ?a; (case a => k_is)))
    (case z_enumerate => (refine' PySem.W.mg_none_of KX G ?a; (case a => k_is)))
    (case z_zip => (refine' PySem.W.mg_none_of KX G ?a; (case a => k_is)))
    (case z_bool => (refine' PySem.W.mg_none_of KX G ?a; (case a => k_is)))
#print axioms PySem.Challenge.cw_waypins_k87_whole_ways_that_no_meeting_t_holds
end
